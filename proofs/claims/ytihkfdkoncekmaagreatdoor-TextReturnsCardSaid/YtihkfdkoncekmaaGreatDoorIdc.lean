/- This text proves that runs of that interpreter keep apart what they must, and that code that calls and loops is sound; it has no conditions. -/
import Derived.Test.YtihkfdkoncekmaaGreatDoorIdb
import Derived.Scope
set_option linter.unusedSimpArgs false
set_option linter.unusedVariables false
namespace Go.Idl
open Classical
variable {X:Ctx}{N:Nat}{G:Gh}{st:St}{a:Act}{w:World}
inductive Lo (n:Nat):IV→Prop
 |flat (v:IV) (h:∀id,(∀o,v ≠ .pB id o)∧(∀o l s,v ≠ .sB id o l s)∧v ≠ .map id∧v ≠ .nT id) (h1:∀f a b,v ≠ .func f a b) (h2:∀t u,v ≠ .iface t u) (h3:∀c,v ≠ .agg c) (h4:∀c,v ≠ .db c):Lo n v
 |pB (id o) (h:id<n):Lo n (.pB id o)
 |sB (id o l s) (h:id<n):Lo n (.sB id o l s)
 |map (id) (h:id<n):Lo n (.map id)
 |nT (id) (h:id<n):Lo n (.nT id)
 |func (f a b) (ha:∀v∈a,Lo n v) (hb:∀v∈b,Lo n v):Lo n (.func f a b)
 |iface (t v) (h:Lo n v):Lo n (.iface t v)
 |agg (c) (h:∀v∈c,Lo n v):Lo n (.agg c)
 |db (c) (h:∀v∈c,Lo n v):Lo n (.db c)
theorem Lo.mono {n m:Nat}(hnm:n≤m) {v:IV}(h:Lo n v):Lo m v:=by
 induction h with
 |flat v h h1 h2 h3 h4=>exact .flat v h h1 h2 h3 h4
 |pB id o h=>exact .pB id o (by omega)
 |sB id o l s h=>exact .sB id o l s (by omega)
 |map id h=>exact .map id (by omega)
 |nT id h=>exact .nT id (by omega)
 |func f a b _ _ iha ihb=>exact .func f a b iha ihb
 |iface t v _ ih=>exact .iface t v ih
 |agg c _ ih=>exact .agg c ih
 |db c _ ih=>exact .db c ih
theorem Lo.plain {n:Nat}{v:IV}(h:v.plain=true):Lo n v:=by
 cases v with
 |func f a b =>
  cases a with
  |cons _ _=>simp[IV.plain] at h
  |nil=>cases b with
   |cons _ _=>simp[IV.plain] at h
   |nil=>exact .func f [] [] (by simp) (by simp)
 |_=>first | (simp[IV.plain] at h;done) | exact .flat _ (by simp) (by simp) (by simp) (by simp) (by simp)
def Gh.upto (G:Gh) (n:Nat):Gh:={ G with bx:=fun id=>if id<n then G.bx id else none }
theorem VR.lo {v:IV}{r:Value}(h:VR G v r) {n:Nat}(hn:∀id b,G.bx id=some b→id<n):Lo n v:=by
 induction h with
 |pB id off b h=>exact .pB id off (hn _ _ h)
 |sB id off len sz b cap h h3=>exact .sB id off len sz (hn _ _ h)
 |map id b h=>exact .map id (hn _ _ h)
 |nT id b h=>exact .nT id (hn _ _ h)
 |func f fs cs rf rc hf hc _ _ ih1 ih2 =>
  refine .func f fs cs (fun v hv=>?_) (fun v hv=>?_)
  ·obtain⟨i,hi,rfl⟩:=List.getElem_of_mem hv;exact ih1 i hi (by omega) hn
  ·obtain⟨i,hi,rfl⟩:=List.getElem_of_mem hv;exact ih2 i hi (by omega) hn
 |iface t v rv _ ih=>exact .iface t v (ih hn)
 |agg cs rc hl _ ih =>refine .agg cs (fun v hv=>?_);obtain⟨i,hi,rfl⟩:=List.getElem_of_mem hv;exact ih i hi (by omega) hn
 |db cs rc hl _ ih =>refine .db cs (fun v hv=>?_);obtain⟨i,hi,rfl⟩:=List.getElem_of_mem hv;exact ih i hi (by omega) hn
 |_=>exact .flat _ (by simp) (by simp) (by simp) (by simp) (by simp)
theorem VR.upto {v:IV}{r:Value}(h:VR G v r) {n:Nat}(hl:Lo n v):VR (G.upto n) v r:=by
 induction h with
 |undef v=>exact .undef v
 |bool b=>exact .bool b
 |int k n=>exact .int k n
 |float k n=>exact .float k n
 |um k a b=>exact .um k a b
 |str s=>exact .str s
 |gE=>exact .gE
 | @pI G row off b o g h1 h2 ih=>exact .pI row off b o g h1 h2
 | @pB G id off b h =>
  cases hl with
  |flat _ h'=>exact absurd rfl ((h' id).1 off)
  |pB _ _ cd=>exact .pB id off b (by simp[Gh.upto,cd,h])
 |aa=>exact .aa
 | @sl G row len b o cap g h1 h2 h3 ih=>exact .sl row len b o cap g h1 h2 h3
 |zv a=>exact .zv a
 | @sB G id off len sz b cap h h3 =>
  cases hl with
  |flat _ h'=>exact absurd rfl ((h' id).2.1 off len sz)
  |sB _ _ _ _ cd=>exact .sB id off len sz b cap (by simp[Gh.upto,cd,h]) h3
 |gX=>exact .gX
 | @map G id b h =>
  cases hl with
  |flat _ h'=>exact absurd rfl (h' id).2.2.1
  |map _ cd=>exact .map id b (by simp[Gh.upto,cd,h])
 |nilFunc=>exact .nilFunc
 | @func G f fs cs rf rc hf hc h1 h2 ih1 ih2 =>
  cases hl with
  |flat _ _ h'=>exact absurd rfl (h' f fs cs)
  |func _ _ _ ha hb=>exact .func f fs cs rf rc hf hc (fun i h h'=>ih1 i h h' (ha _ (List.getElem_mem h))) (fun i h h'=>ih2 i h h' (hb _ (List.getElem_mem h)))
 | @nT G id b h =>
  cases hl with
  |flat _ h'=>exact absurd rfl (h' id).2.2.2
  |nT _ cd=>exact .nT id b (by simp[Gh.upto,cd,h])
 |nilIface=>exact .nilIface
 | @iface G t v rv h ih =>
  cases hl with
  |flat _ _ _ h'=>exact absurd rfl (h' t v)
  |iface _ _ h=>exact .iface t v rv (ih h)
 | @agg G cs rc hlen h ih =>
  cases hl with
  |flat _ _ _ _ h'=>exact absurd rfl (h' cs)
  |agg _ h=>exact .agg cs rc hlen (fun i hi hi'=>ih i hi hi' (h _ (List.getElem_mem hi)))
 | @db G cs rc hlen h ih =>
  cases hl with
  |flat _ _ _ _ _ h'=>exact absurd rfl (h' cs)
  |db _ h=>exact .db cs rc hlen (fun i hi hi'=>ih i hi hi' (h _ (List.getElem_mem hi)))
theorem Gv {n:Nat}:∀(vs:List IV) (k:Nat),IV.refs.go vs=some k→k≤n→∀v∈vs,Lo n v
 |[],k,_,_=>by simp
 |v::vs,k,h,hk=>by
  intro u hu;have key:∀(j:Nat) (o:Option Nat),o.map (Nat.max (j+1))=some k→j<n∧∃k',o=some k'∧k'≤n:=by
   intro j o e;obtain⟨k',rfl,e2⟩:=Option.map_eq_some_iff.1 e;have:j+1≤k:=by rw[←e2];exact Nat.le_max_left _ _
   have:k'≤k:=by rw[←e2];exact Nat.le_max_right _ _
   exact⟨by omega,k',rfl,by omega⟩
  have pl:(if v.plain=true then IV.refs.go vs else none)=some k→Lo n v∧IV.refs.go vs=some k:=by
   intro e;split at e
   ·rename_i q;exact⟨Lo.plain q,e⟩
   ·cases e
  have:Lo n v∧∃k',IV.refs.go vs=some k'∧k'≤n:=by
   cases v with
   |pB id o=>obtain⟨q1,q2⟩:=key id _ (by simpa[IV.refs.go] using h);exact⟨.pB id o q1,q2⟩
   |sB id o l s=>obtain⟨q1,q2⟩:=key id _ (by simpa[IV.refs.go] using h);exact⟨.sB id o l s q1,q2⟩
   |map id=>obtain⟨q1,q2⟩:=key id _ (by simpa[IV.refs.go] using h);exact⟨.map id q1,q2⟩
   |nT id=>obtain⟨q1,q2⟩:=key id _ (by simpa[IV.refs.go] using h);exact⟨.nT id q1,q2⟩
   |_=>obtain⟨q1,q2⟩:=pl (by simpa[IV.refs.go] using h);exact⟨q1,k,q2,hk⟩
  rcases List.mem_cons.1 hu with rfl | hu
  ·exact this.1
  ·obtain⟨k',h1,h2⟩:=this.2;exact Gv vs k' h1 h2 u hu
theorem Bh {v:IV}{k n:Nat}(h:v.refs=some k) (hk:k≤n):Lo n v:=by
 have pl:(if v.plain=true then some 0 else none)=some k→Lo n v:=by
  intro e;split at e
  ·rename_i q;exact Lo.plain q
  ·cases e
 cases v with
 |pB id o=>simp only[IV.refs,Option.some.injEq] at h;exact .pB id o (by omega)
 |sB id o l s=>simp only[IV.refs,Option.some.injEq] at h;exact .sB id o l s (by omega)
 |map id=>simp only[IV.refs,Option.some.injEq] at h;exact .map id (by omega)
 |nT id=>simp only[IV.refs,Option.some.injEq] at h;exact .nT id (by omega)
 |func f a b =>simp only[IV.refs] at h;have:=Gv _ k h hk;exact .func f a b (fun v hv=>this v (List.mem_append_left _ hv)) (fun v hv=>this v (List.mem_append_right _ hv))
 |_=>exact pl (by simpa[IV.refs] using h)
theorem qM {vs:List IV}{k n:Nat}(h:aC vs=some k) (hk:k≤n):∀v∈vs,Lo n v:=by intro v hv;obtain⟨j,h1,h2⟩:=tZ h v hv;exact Bh h1 (by omega)
theorem t7 {n:Nat}:∀(vs:List IV) (k:Nat),IV.ak.go vs=some k→k≤n→∀v∈vs,Lo n v
 |[],k,_,_=>by simp
 |v::vs,k,h,hk=>by
  intro u hu;simp only[IV.ak.go] at h;split at h
  ·rename_i x y e1 e2;simp only[Option.some.injEq] at h;have hx:x≤k:=by rw[←h];exact Nat.le_max_left _ _
   have hy:y≤k:=by rw[←h];exact Nat.le_max_right _ _
   rcases List.mem_cons.1 hu with rfl | hu
   ·cases u with
    |agg cs=>exact .agg cs (qM e1 (by omega))
    |_=>exact Bh e1 (by omega)
   ·exact t7 vs y e2 (by omega) u hu
  ·cases h
theorem t8 {v:IV}{k n:Nat}(h:v.ak=some k) (hk:k≤n):Lo n v:=by
 cases v with
 |agg cs=>exact .agg cs (qM h hk)
 |db vs=>exact .db vs (t7 vs k h hk)
 |_=>exact Bh h hk
theorem p9 {v:IV}{k:Nat}(h:v.ak=some k):v.jO=false:=by
 cases v<;>first | rfl | (simp[IV.ak,IV.refs,IV.plain] at h)
def T3 (n:Nat):aS→Prop
 |.cells cs _=>∀v∈cs,Lo n v
 |.map es=>∀p∈es,Lo n p.1∧Lo n p.2
 |.loop _ _ _ tm _=>∀i v c,look tm i=some (v,c)→Lo n v
 |_=>True
def Tu (n:Nat) (m:IM):Prop:=∀id,id<n→T3 n (m.get id)
structure fD (m m':IM):Prop where
 kS:m.kS≤m'.kS
 size:m.size≤m'.size
 cl:m'.kS=m.kS→∀n,n≤m.size→Tu n m→Tu n m'
theorem fD.refl (m:IM):fD m m:=⟨Nat.le_refl _,Nat.le_refl _,fun _ _ _ h=>h⟩
theorem fD.trans {m m1 m2:IM}(h:fD m m1) (k:fD m1 m2):fD m m2 :=
 ⟨Nat.le_trans h.kS k.kS,Nat.le_trans h.size k.size,fun e n hn hc =>
  k.cl (by have:=h.kS;have:=k.kS;omega) n (Nat.le_trans hn h.size) (h.cl (by have:=h.kS;have:=k.kS;omega) n hn hc)⟩
theorem c9.upto {vs:List IV}{rs:List Value}(h:c9 G vs rs) {n:Nat}(hl:∀v∈vs,Lo n v):c9 (G.upto n) vs rs :=
 ⟨h.1,fun i hi hi'=>(h.2 i hi hi').upto (hl _ (List.getElem_mem hi))⟩
theorem eK.upto {o:aS}{ro:Obj}(h:eK X G o ro) {n:Nat}(hl:T3 n o):eK X (G.upto n) o ro:=by
 cases h with
 |cells cs cp rc t f h hf hcp=>exact .cells cs cp rc t f (h.upto hl) hf hcp
 |iter s p=>exact .iter s p
 |map es res c hk hv =>
  refine .map es res c (hk.upto fun v hv=>?_) (hv.upto fun v hv=>?_)
  ·obtain⟨p,hp,rfl⟩:=List.mem_map.1 hv;exact (hl p hp).1
  ·obtain⟨p,hp,rfl⟩:=List.mem_map.1 hv;exact (hl p hp).2
 |loop busy fn site env j L r hr hp hlt h1 h2 he hc hs hj =>refine .loop busy fn site env j L r hr hp hlt h1 h2 (fun i v c e=>⟨(he i v c e).1.upto ?_,(he i v c e).2⟩) hc hs hj;exact hl i v c e
end Go.Idl
namespace Go.Idl
def dK (call:bW):Prop:=∀c args m v m',call c args m=some (v,m')→fD m m'
theorem fD.qJ {m m':IM}{id:Nat}{x:aS}(h:m.put id x=some m') (hx:∀n,id<n→T3 n (m.get id)→T3 n x):fD m m':=by
 obtain⟨h1,h2,h3⟩:=py h;refine⟨by omega,by omega,fun _ n hn hc j hj=>?_⟩;rw[h3];split
 ·rename_i q;obtain⟨rfl,_⟩:=q;exact hx n hj (hc _ hj)
 ·exact hc j hj
theorem Kg {m m':IM}{x:aS}(h:m.push x=some m'):m'.size=m.size+1∧m'.kS=m.kS∧∀j,m'.get j=if j=m.size then x else m.get j:=by
 simp only[IM.push,aK,Option.some.injEq] at h;subst h;refine⟨by simp[IM.size],rfl,fun j=>?_⟩;simp only[IM.get,IM.size,List.getD_eq_getElem?_getD];split
 ·rename_i q;subst q;simp
 ·rename_i q;rcases Nat.lt_or_ge j m.bs.length with q2 | q2
  ·rw[List.getElem?_append_left q2]
  ·rw[List.getElem?_eq_none (by simp;omega),List.getElem?_eq_none q2]
theorem fD.Gk {m m':IM}{x:aS}(h:m.push x=some m'):fD m m':=by obtain⟨h1,h2,h3⟩:=Kg h;refine⟨by omega,by omega,fun _ n hn hc j hj=>?_⟩;rw[h3,if_neg (by omega)];exact hc j hj
theorem Lx {cs vs:List IV}{off:Nat}{v:IV}(h:v∈over cs off vs):v∈cs∨v∈vs:=by
 simp only[over,List.mem_append] at h;rcases h with (h | h) | h
 ·exact .inl (List.mem_of_mem_take h)
 ·exact .inr h
 ·exact .inl (List.mem_of_mem_drop h)
theorem mH {st st':St}{n:Nat}{p:IV}{vs:List IV}{c:cV}(h:bK st n p vs c=some st'):fD st.m st'.m:=by
 unfold bK at h;split at h
 ·cases h
 ·split at h
  ·split at h
   ·split at h
    ·simp only[aK,Option.some.injEq] at h;subst h;exact fD.refl _
    ·cases h
   ·cases h
  ·rename_i id off;split at h
   ·rename_i cs cp r e1 e2;split at h
    ·simp only[aK] at h;split at h
     ·rename_i m' hm;simp only[Option.some.injEq] at h;subst h;obtain⟨h1,h2,h3⟩:=py hm;refine⟨?_,?_,fun he k hk hc j hj=>?_⟩
      ·simp only;split<;>omega
      ·show st.m.size≤m'.size;omega
      ·show T3 k (m'.get j);rw[h3];split
       ·rename_i q;obtain⟨rfl,_⟩:=q;have hr:r≤id:=by
         simp only at he;split at he
         ·assumption
         ·omega
        have hold:=hc id hj;rw[e1] at hold;intro v hv;rcases Lx hv with hv | hv
        ·exact hold v hv
        ·exact qM e2 (by omega) v hv
       ·exact hc j hj
     ·cases h
    ·cases h
   ·cases h
  ·cases h
theorem pw {st st':St}{l:Loc}(h:st.drop l=some st'):fD st.m st'.m:=by
 unfold St.drop at h;split at h
 ·split at h<;>(simp only[Option.some.injEq] at h;subst h;exact fD.refl _)
 ·simp only[Option.some.injEq] at h;subst h;exact fD.refl _
 ·split at h
  ·simp only[aK,Option.some.injEq] at h;subst h;exact fD.refl _
  ·simp only[Option.some.injEq] at h;subst h;exact fD.refl _
 ·split at h
  ·rename_i id off _ cs cp e;simp only[aK] at h;split at h
   ·rename_i m hm;simp only[Option.some.injEq] at h;subst h;exact fD.qJ hm (fun n _ q=>by rw[e] at q;exact q)
   ·cases h
  ·simp only[Option.some.injEq] at h;subst h;exact fD.refl _
theorem tb {st st':St}{k:Nat}{o:aS}{v:IV}{c:cV}(h:ga st k o=some (v,c,st')):fD st.m st'.m:=by
 unfold ga at h;split at h
 ·simp only[Option.some.injEq,Prod.mk.injEq] at h;obtain⟨_,_,rfl⟩:=h;exact fD.refl _
 ·cases h
theorem pF {st st':St}{o:aS}{v0 v:IV}{c:cV}(h:fK st o v0=some (v,c,st')):fD st.m st'.m:=by
 unfold fK at h;split at h
 ·rename_i m hm;simp only[Option.some.injEq,Prod.mk.injEq] at h;obtain⟨_,_,rfl⟩:=h;exact fD.Gk hm
 ·cases h
theorem nL:∀(h:List Nat) (m m1:IM),eJ m h=some m1→m1.size=m.size∧m1.kS=m.kS∧∀j,m1.get j=if j∈h then .none else m.get j
 |[],m,m1,e=>by simp only[eJ,Option.some.injEq] at e;subst e;exact⟨rfl,rfl,fun j=>by simp⟩
 |id::h,m,m1,e=>by
  simp only[eJ] at e;split at e
  ·rename_i m2 hm;obtain⟨a1,a2,a3⟩:=py hm;obtain⟨b1,b2,b3⟩:=nL h m2 m1 e;refine⟨by omega,by omega,fun j=>?_⟩;rw[b3];by_cases q:j∈h
   ·simp[q]
   ·simp only[q,if_false,List.mem_cons,or_false];rw[a3];by_cases q2:id=j
    ·subst q2;simp only[true_and,if_true];split
     ·rfl
     ·rename_i q3;simp only[IM.get,List.getD_eq_getElem?_getD];rw[List.getElem?_eq_none (by simp only[IM.size] at q3;omega)];rfl
    ·simp[q2,Ne.symm q2]
  ·cases e
theorem lH:∀(h:List Nat) (m m1 m2:IM),cf m m1 h=some m2→m2.size=m1.size∧m2.kS=m1.kS∧∀j,m2.get j=if j∈h∧j<m1.size then m.get j else m1.get j
 |[],m,m1,m2,e=>by simp only[cf,Option.some.injEq] at e;subst e;exact⟨rfl,rfl,fun j=>by simp⟩
 |id::h,m,m1,m2,e=>by
  simp only[cf] at e;split at e
  ·rename_i m3 hm;obtain⟨a1,a2,a3⟩:=lH h m m1 m3 hm;obtain⟨b1,b2,b3⟩:=py e;refine⟨by omega,by omega,fun j=>?_⟩;rw[b3];by_cases q:id=j
   ·subst q;by_cases q2:id<m1.size
    ·rw[if_pos ⟨rfl,by omega⟩,if_pos ⟨List.mem_cons_self,q2⟩]
    ·rw[if_neg (by omega),if_neg (fun q3=>q2 q3.2),a3,if_neg (fun q3=>q2 q3.2)]
   ·rw[if_neg (fun q3=>q q3.1),a3];simp[Ne.symm q]
  ·cases e
theorem wc {call:bW}(hk:dK call) {st st':St}{c:Callee}{args:List IV}{fk:List Arg}{v:IV}{cp:cV}(h:dC call st c args fk=some (v,cp,st')):fD st.m st'.m:=by
 unfold dC at h;simp only[aK] at h;split at h
 ·rename_i _ hs _ e
  cases e
  split at h
  ·cases h
  ·rename_i m1 hm1;split at h
   ·cases h
   ·rename_i v2 m2 hc;split at h
    ·rename_i m3 lk hm3 _;simp only[Option.some.injEq,Prod.mk.injEq] at h;obtain⟨_,_,rfl⟩:=h;obtain⟨a1,a2,a3⟩:=nL _ _ _ hm1;obtain⟨b1,b2,b3⟩:=lH _ _ _ _ hm3;have k:=hk _ _ _ _ _ hc;refine⟨by have:=k.kS;simp only;omega,by have:=k.size;simp only;omega,fun he n hn hcl j hj=>?_⟩;simp only at he ⊢;have hcl1:Tu n m1:=fun j hj=>by
      rw[a3];split
      ·exact trivial
      ·exact hcl j hj
     have:=k.cl (by omega) n (by omega) hcl1;rw[b3];split
     ·exact hcl j hj
     ·exact this j hj
    ·cases h
 ·cases h
theorem Mb {call:bW}(hk:dK call) (k:IK) {st st':St}{v:IV}{c:cV}(h:k.run call st=some (v,c,st')):fD st.m st'.m:=by
 have same:∀{x:IV}{y:cV},some (x,y,st)=some (v,c,st')→fD st.m st'.m:=by intro x y e;simp only[Option.some.injEq,Prod.mk.injEq] at e;obtain⟨_,_,rfl⟩:=e;exact fD.refl _
 cases k with
 |mv x xf lk =>
  simp only[IK.run] at h
  repeat' split at h
  all_goals first
   |cases h;done
   |exact same h
   |(rename_i hd;simp only[Option.some.injEq,Prod.mk.injEq] at h;obtain⟨_,_,rfl⟩:=h;exact pw hd)
 |p o args =>
  simp only[IK.run] at h
  repeat' split at h
  all_goals first
   |cases h;done
   |exact same h
 |same x =>
  simp only[IK.run] at h
  repeat' split at h
  all_goals first
   |cases h;done
   |exact same h
   |(rename_i hd;simp only[Option.some.injEq,Prod.mk.injEq] at h;obtain⟨_,_,rfl⟩:=h;exact pw hd)
 |load agg n x lk =>
  simp only[IK.run] at h
  repeat' split at h
  all_goals first
   |cases h;done
   |exact same h
 |store n x y xf =>
  simp only[IK.run] at h;split at h
  ·split at h
   ·split at h
    ·split at h
     ·rename_i hd;split at h
      ·rename_i hs;simp only[Option.some.injEq,Prod.mk.injEq] at h;obtain⟨_,_,rfl⟩:=h;exact (pw hd).trans (mH hs)
      ·cases h
     ·cases h
    ·split at h
     ·rename_i hs;simp only[Option.some.injEq,Prod.mk.injEq] at h;obtain⟨_,_,rfl⟩:=h;exact mH hs
     ·cases h
   ·split at h
    ·rename_i hs;simp only[Option.some.injEq,Prod.mk.injEq] at h;obtain⟨_,_,rfl⟩:=h;exact mH hs
    ·cases h
  ·cases h
 |bX k zero cp=>exact tb (by simpa only[IK.run] using h)
 |iv zero cp=>exact pF (by simpa only[IK.run] using h)
 |f5 k n x =>
  simp only[IK.run] at h
  repeat' split at h
  all_goals first
   |cases h;done
   |exact tb h
 |nZ n x =>
  simp only[IK.run] at h
  repeat' split at h
  all_goals first
   |cases h;done
   |exact pF h
 |buildSlice sz len zero parts args =>
  simp only[IK.run] at h
  repeat' split at h
  all_goals first
   |cases h;done
   |exact same h
 |fb x =>
  simp only[IK.run] at h
  repeat' split at h
  all_goals first
   |cases h;done
   |exact same h
 |me sz bytes zero len cap =>
  simp only[IK.run] at h
  repeat' split at h
  all_goals first
   |cases h;done
   |exact same h
 |kO sz bytes zero len cap =>
  simp only[IK.run] at h
  repeat' split at h
  all_goals first
   |cases h;done
   |exact pF h
 |append sz bytes s x =>
  simp only[IK.run] at h
  repeat' split at h
  all_goals first
   |cases h;done
   |exact same h
   |(rename_i hd;simp only[Option.some.injEq,Prod.mk.injEq] at h;obtain⟨_,_,rfl⟩:=h;exact pw hd)
 |copy sz d s =>
  simp only[IK.run] at h
  repeat' split at h
  all_goals first
   |cases h;done
   |exact same h
   |(rename_i hd;simp only[Option.some.injEq,Prod.mk.injEq] at h;obtain⟨_,_,rfl⟩:=h;exact mH hd)
 |aj f args fk =>
  simp only[IK.run] at h;split at h
  ·exact wc hk h
  ·cases h
 |fH g args fk =>
  simp only[IK.run] at h
  repeat' split at h
  all_goals first
   |cases h;done
   |exact wc hk h
 |mkMap=>exact pF (by simpa only[IK.run] using h)
 |lookup d zero ok m k =>
  simp only[IK.run] at h
  repeat' split at h
  all_goals first
   |cases h;done
   |exact same h
 |jy d m k v =>
  simp only[IK.run] at h;split at h
  ·rename_i id xk yv _ _ _;split at h
   ·rename_i es e4;split at h
    ·rename_i _ _ es' e5 e6;split at h
     ·rename_i m2 hm;simp only[Option.some.injEq,Prod.mk.injEq] at h;obtain⟨_,_,rfl⟩:=h;simp only[Bool.and_eq_true] at e6;refine fD.qJ hm (fun n _ q=>?_);rw[e4] at q;have hu:∀(es es':List (IV×IV)),xT d xk yv es=some es'→(∀p∈es,Lo n p.1∧Lo n p.2)→∀p∈es',Lo n p.1∧Lo n p.2:=by
       intro es
       induction es with
       |nil =>intro es' e _ p hp;simp only[xT,Option.some.injEq] at e;subst e;simp only[List.mem_singleton] at hp;subst hp;exact⟨Lo.plain e6.2,Lo.plain e6.1⟩
       |cons y es ih =>
        intro es' e hq p hp;obtain⟨y1,y2⟩:=y;simp only[xT] at e;split at e
        ·simp only[Option.some.injEq] at e;subst e;rcases List.mem_cons.1 hp with rfl | hp
         ·exact⟨Lo.plain e6.2,Lo.plain e6.1⟩
         ·exact hq p (List.mem_cons_of_mem _ hp)
        ·obtain⟨es2,e7,rfl⟩:=Option.map_eq_some_iff.1 e;rcases List.mem_cons.1 hp with rfl | hp
         ·exact hq _ List.mem_cons_self
         ·exact ih es2 e7 (fun p hp=>hq p (List.mem_cons_of_mem _ hp)) p hp
        ·cases e
      exact hu es es' e5 q
     ·cases h
    ·cases h
   ·cases h
  ·cases h
 |kt m =>
  simp only[IK.run] at h
  repeat' split at h
  all_goals first
   |cases h;done
   |exact same h
 |fa k x =>
  simp only[IK.run] at h
  repeat' split at h
  all_goals first
   |cases h;done
   |exact tb h
 |ee x =>
  simp only[IK.run] at h
  repeat' split at h
  all_goals first
   |cases h;done
   |exact same h
   |(simp only[Option.some.injEq,Prod.mk.injEq] at h;obtain⟨_,_,rfl⟩:=h;exact fD.refl _)
theorem Qi {st st':St}{d:Option Nat}{v:IV}{c:cV}(h:st.put d v c=some st'):st'.m=st.m∧st'.lb=st.lb:=by
 cases d with
 |none=>simp only[St.put,Option.some.injEq] at h;subst h;exact⟨rfl,rfl⟩
 |some d=>simp only[St.put,aK,ck,Option.some.injEq] at h;subst h;exact⟨rfl,rfl⟩
theorem N3 {call:bW}(hk:dK call) {o:dh}{st st':St}(h:o.run call st=some st'):fD st.m st'.m:=by
 replace h:=dh.xK h;unfold dh.fF gate at h;split at h
 ·split at h
  ·rename_i hr;split at h
   ·rename_i hp;have h1:=Mb hk _ hr;rw[← (Qi hp).1] at h1;split at h
    ·split at h<;>(simp only[Option.some.injEq] at h;subst h;exact h1)
    ·simp only[Option.some.injEq] at h;subst h;exact h1
   ·cases h
  ·cases h
 ·rw[(Qi h).1];exact fD.refl _
 ·cases h
theorem xy {call:bW}(hk:dK call):∀(l:List dh) {st st':St},bm call l st=some st'→fD st.m st'.m
 |[],st,st',h=>by simp only[bm,Option.some.injEq] at h;subst h;exact fD.refl _
 |o::l,st,st',h=>by
  simp only[bm] at h;split at h
  ·rename_i h1;exact (N3 hk h1).trans (xy hk l h)
  ·cases h
def lI (loop:kH):Prop:=∀h b st e st',loop h b st=some (e,st')→fD st.m st'.m
theorem fy {call:bW}(hk:dK call) {loop:kH}(hl:lI loop):∀(c:aq) {st:St}{e:Ex}{st':St},c.run call loop st=some (e,st')→fD st.m st'.m
 |.skip,st,e,st',h=>by simp only[aq.run,Option.some.injEq,Prod.mk.injEq] at h;obtain⟨_,rfl⟩:=h;exact fD.refl _
 |.ops l,st,e,st',h=>by
  simp only[aq.run] at h;split at h
  ·rename_i h1;simp only[Option.some.injEq,Prod.mk.injEq] at h;obtain⟨_,rfl⟩:=h;exact xy hk l h1
  ·cases h
 |.draw l _,st,e,st',h=>by
  simp only[aq.run] at h;split at h
  ·split at h
   ·rename_i h1;simp only[Option.some.injEq,Prod.mk.injEq] at h;obtain⟨_,rfl⟩:=h;exact xy hk l h1
   ·cases h
  ·cases h
 |.seq a b,st,e,st',h=>by
  simp only[aq.run] at h;split at h
  ·rename_i h1;exact (fy hk hl a h1).trans (fy hk hl b h)
  ·exact fy hk hl a h
 |.cond c a b,st,e,st',h=>by
  simp only[aq.run] at h;split at h
  ·exact fy hk hl a h
  ·exact fy hk hl b h
  ·cases h
 |.block id b,st,e,st',h=>by
  simp only[aq.run] at h;split at h
  ·rename_i h1;split at h<;>(simp only[Option.some.injEq,Prod.mk.injEq] at h;obtain⟨_,rfl⟩:=h;exact fy hk hl b h1)
  ·exact fy hk hl b h
 |.loop hd b,st,e,st',h=>hl _ _ _ _ _ (by simpa only[aq.run] using h)
 |.kv g fn site,st,e,st',h=>by
  simp only[aq.run] at h;split at h
  ·split at h
   ·rename_i m0 _ hp;split at h
    ·rename_i m1 hc;split at h
     ·rename_i m2 _ hput;have k:fD st.m m2:=(fD.Gk hp).trans ((hk _ _ _ _ _ hc).trans (fD.qJ hput (fun _ _ _=>trivial)))
      repeat' split at h
      all_goals first
       |cases h;done
       |(simp only[Option.some.injEq,Prod.mk.injEq] at h;obtain⟨_,rfl⟩:=h;exact k)
     ·cases h
    ·cases h
   ·cases h
  ·cases h
 |.exit id,st,e,st',h=>by simp only[aq.run,Option.some.injEq,Prod.mk.injEq] at h;obtain⟨_,rfl⟩:=h;exact fD.refl _
 |.ret,st,e,st',h=>by simp only[aq.run,Option.some.injEq,Prod.mk.injEq] at h;obtain⟨_,rfl⟩:=h;exact fD.refl _
theorem Rt {st st':St}{h:Head}(e:st.head h=some st'):st'.m=st.m:=by
 unfold St.head at e;split at e
 ·simp only[Option.some.injEq] at e;subst e;rfl
 ·cases e
theorem Du {m:IM}{n j:Nat}(h:j<n):IM.get { m with bs:=m.bs.take n } j=m.get j:=by simp only[IM.get,List.getD_eq_getElem?_getD];rw[List.getElem?_take_of_lt h]
theorem uc {m m' m2:IM}{v v':IV}(h:settle m m' v=some (v',m2)) (k:fD m m'):fD m m2:=by
 have hcut:fD m { m' with bs:=m'.bs.take m.size }:=by refine⟨k.kS,by have:=k.size;simp only[IM.size] at this ⊢;simp;omega,fun he n hn hc j hj=>?_⟩;rw[Du (by omega)];exact k.cl he n hn hc j hj
 unfold settle at h;simp only[aK] at h;split at h
 ·rename_i _ bs _ e
  cases e
  split at h
  ·split at h
   ·simp only[Option.some.injEq,Prod.mk.injEq] at h;obtain⟨_,rfl⟩:=h;exact hcut
   ·split at h
    ·split at h
     ·simp only[Option.some.injEq,Prod.mk.injEq] at h;obtain⟨_,rfl⟩:=h;exact hcut
     ·simp only[Option.some.injEq,Prod.mk.injEq] at h;obtain⟨_,rfl⟩:=h;exact k
    ·cases h
  ·simp only[Option.some.injEq,Prod.mk.injEq] at h;obtain⟨_,rfl⟩:=h;exact k
 ·cases h
theorem Ei {call:bW}(hk:dK call) {loop:kH}(hl:lI loop) {fn:dJ}{args:List IV}{m m2:IM}{v:IV}(h:fn.call call loop args m=some (v,m2)):fD m m2:=by
 unfold dJ.call at h;split at h
 ·cases h
 ·split at h
  ·rename_i hr;have k:=fy hk hl _ hr
   repeat' split at h
   all_goals first
    |cases h;done
    |exact uc h k
  ·cases h
theorem ES {call:bW}(hk:dK call) {loop:kH}(hl:lI loop) {r:mX}{id:Nat}{tm:Env}{args:List IV}{m m2:IM}{v:IV}
  (h:r.call call loop id tm args m=some (v,m2)):fD m m2:=by
 unfold mX.call at h;split at h
 ·cases h
 ·split at h
  ·rename_i st1 hr1;have k1:=fy hk hl _ hr1;split at h
   ·rename_i f1 s1 t1 j1 e1;split at h
    ·rename_i m1 e2;split at h
     ·rename_i e st2 hr2;have k2:=fy hk hl _ hr2;split at h
      ·rename_i f2 s2 t2 j2 e3;split at h
       ·rename_i m3 e4;exact uc h (k1.trans ((fD.qJ e2 (fun n hn q=>by rw[e1] at q;exact q)).trans (k2.trans (fD.qJ e4 (fun n hn q=>by rw[e3] at q;exact q)))))
       ·cases h
      ·cases h
     ·cases h
    ·cases h
   ·cases h
  ·cases h
theorem Dc (da:MW) (al:vN):∀k,dK (jc da al k).call∧lI (jc da al k).loop
 |0=>by
  refine⟨?_,?_⟩
  ·intro c args m v m' h;simp[jc] at h
  ·intro hd b st e st' h;simp[jc] at h
 |k+1=>by
  obtain⟨h1,h2⟩:=Dc da al k;refine⟨fun c args m v m' h=>?_,fun hd b st e st' h=>?_⟩
  ·simp only[jc] at h;split at h
   ·split at h
    ·obtain⟨x,_,e⟩:=Option.map_eq_some_iff.1 h;simp only[Prod.mk.injEq] at e;obtain⟨_,rfl⟩:=e;exact fD.refl _
    ·split at h
     ·exact Ei h1 h2 h
     ·cases h
   ·split at h
    ·split at h
     ·exact ES h1 h2 h
     ·cases h
    ·cases h
  ·simp only[jc] at h;split at h
   ·cases h
   ·rename_i st1 hst;have e0:=Rt hst;split at h
    ·rename_i st2 hr;have:=(fy h1 h2 _ hr).trans (h2 _ _ _ _ _ h);rw[e0] at this;exact this
    ·have:=fy h1 h2 _ h;rw[e0] at this;exact this
end Go.Idl
namespace Go.Idl
open Classical
variable {X:Ctx}{N:Nat}{G:Gh}{st:St}{a:Act}{w:World}
abbrev Fr (ro:Option Nat):Fence:={ Fence.wide with round:=ro }
def FA (G:Gh) (a:Act) (w:World) (r:Value):Loc→Prop
 |.slot j=>r=a.tmps.getD j undef
 |.L k off=>∃b,G.lb k=some b∧w.cell? ⟨b,off,none⟩=some r
 |.B id off=>∃b,G.bx id=some b∧w.cell? ⟨b,off,none⟩=some r
 |.marked=>∀b o sp len cap,r=.slice (some ⟨b,o,sp⟩) len cap→lP G w b
def IK.calls:IK→Bool
 |.aj .. | .fH ..=>true
 |_=>false
theorem KD (h:SR X N G st a w) (call:bW) {o:Oper}{k:IK}(hk:KR X.P X.rows o.op k) (hn:k.calls=false) {v:IV}{c:cV}{st':St}(hr:k.run call st=some (v,c,st')) :
  ∃r w' G',gy X.P o a.eval w r w'∧OR X N G w st' a v c r G' w'∧∀l,k.link st.env=some l→FA G' a w' r l:=by
 have lift:∀{w':World},(∃r G',gy X.P o a.eval w r w'∧OR X N G w st' a v c r G' w')→(∀l,k.link st.env≠some l) →
   ∃r w' G',gy X.P o a.eval w r w'∧OR X N G w st' a v c r G' w'∧∀l,k.link st.env=some l→FA G' a w' r l:=by
  rintro w' ⟨r,G',h1,h2⟩ hl;exact⟨r,w',G',h1,h2,fun l e=>absurd e (hl l)⟩
 have lift':(∃r w' G',gy X.P o a.eval w r w'∧OR X N G w st' a v c r G' w')→(∀l,k.link st.env≠some l) →
   ∃r w' G',gy X.P o a.eval w r w'∧OR X N G w st' a v c r G' w'∧∀l,k.link st.env=some l→FA G' a w' r l:=by
  rintro ⟨r,w',G',h1,h2⟩ hl;exact⟨r,w',G',h1,h2,fun l e=>absurd e (hl l)⟩
 generalize hop:o.op=op at hk
 cases hk with
 |move x x' xf lk hx =>
  obtain⟨r,G',h1,h2⟩:=CL h call hx hr o (.inl hop);refine⟨r,w,G',h1,h2,fun l e=>?_⟩
  cases hx with
  |tmp i =>
   cases xf<;>cases lk<;>simp[IK.link] at e
   subst e;rcases h1 with h1 | ⟨h1,_⟩
   ·simp[execOp,hop] at h1;exact h1.symm
   ·simp[execOp,hop] at h1
  |_=>simp[IK.link] at e
 |assign x x' xf lk hx =>
  obtain⟨r,G',h1,h2⟩:=CL h call hx hr o (.inr hop);refine⟨r,w,G',h1,h2,fun l e=>?_⟩
  cases hx with
  |tmp i =>
   cases xf<;>cases lk<;>simp[IK.link] at e
   subst e;rcases h1 with h1 | ⟨h1,_⟩
   ·simp[execOp,hop] at h1;exact h1.symm
   ·simp[execOp,hop] at h1
  |_=>simp[IK.link] at e
 |p op po xs as hp ha =>
  simp only[IK.run] at hr;split at hr
  ·rename_i vs e1;split at hr
   ·rename_i v0 e2;simp only[Option.some.injEq,Prod.mk.injEq] at hr;obtain⟨rfl,rfl,rfl⟩:=hr;obtain⟨r,h1,h2⟩:=EO h hp (nY.of h ha e1) e2 (o:=o) hop;exact⟨r,w,G,.inl h1,OR.same h h2,fun l e=>by simp[IK.link] at e⟩
   ·cases hr
  ·cases hr
 |same t e x x' ht he hx=>exact lift' (E1 h call ht he hx hr o hop) (by simp[IK.link])
 |load t d n bytes agg x x' lk ht hx =>
  simp only[IK.run] at hr;split at hr
  ·rename_i p e;split at hr
   ·rename_i v' e';simp only[Option.some.injEq,Prod.mk.injEq] at hr;obtain⟨rfl,rfl,rfl⟩:=hr;have hp:=h.rd hx e;obtain⟨r,h1,h2,h3⟩:=CD h ht e' hp;refine⟨r,w,G,.inl (by simp[execOp,hop,h1]),OR.same h h2,fun l el=>?_⟩
    cases agg with
    |true=>simp[IK.link] at el
    |false =>
     cases lk with
     |false=>simp[IK.link] at el
     |true =>
      simp only[IK.link,e] at el;obtain⟨b,o',h4,h5⟩:=h3 rfl;split at el
      ·rename_i k off q
       cases q
       simp only[Option.some.injEq] at el;subst el;obtain⟨b',hb,hq⟩:=hp;rw[hq] at h4;simp only[Value.pointer.injEq,Option.some.injEq,Addr.mk.injEq,and_true] at h4;obtain⟨rfl,rfl⟩:=h4;exact⟨b',hb,h5⟩
      ·rename_i id off q
       cases q
       simp only[Option.some.injEq] at el;subst el;rw[h4] at hp
       cases hp with
       |pB _ _ _ hb=>exact⟨b,hb,h5⟩
      ·cases el
   ·cases hr
  ·cases hr
 |store t d n bytes agg x x' y y' xf ht hx hy=>exact lift' (Dp h call ht hx hy hr o hop) (by simp[IK.link])
 |bX t zero k cp hz=>exact lift' (tD h call hz (.inl ⟨k,cp,rfl⟩) hr o hop) (by simp[IK.link])
 |iv t zero cp hz=>exact lift' (tD h call hz (.inr ⟨cp,rfl⟩) hr o hop) (by simp[IK.link])
 |f5 t n k x x' hx=>exact lift' (yV h call hx (.inl ⟨k,rfl⟩) hr o hop) (by simp[IK.link])
 |nZ t n x x' hx=>exact lift' (yV h call hx (.inr rfl) hr o hop) (by simp[IK.link])
 |buildSlice t e len ps zero parts as d n bytes agg ht hs hz hp hl ha =>
  obtain⟨r,w',G',h1,h2,h3⟩:=sC h call ht hs hz hp hl ha hr o hop;refine⟨r,w',G',h1,h2,fun l e=>?_⟩;unfold IK.link at e;split at e<;>first
   |(rename_i q;cases q;done)
   |(cases e;exact h3)
   |(cases e;done)
 |fb s d e x x' hs hd he hx =>obtain⟨r,w',G',h1,h2,h3⟩:=xP h call hs hd he hx hr o hop;refine⟨r,w',G',h1,h2,fun l e=>?_⟩;simp only[IK.link,Option.some.injEq] at e;subst e;exact h3
 |me t e l c l' c' zero d n bytes agg ht hs hz hl hc=>exact lift' (CF h call ht hs hz hl hc hr o hop) (by simp[IK.link])
 |kO t e l c l' c' zero d n bytes agg ht hs hz hl hc=>exact lift' (CE h call ht hs hz hl hc hr o hop) (by simp[IK.link])
 |append t u e s x s' x' zero d n bytes agg ht hu hs hb hn0 hz h1 h2=>exact lift' (Al h call ht hu hs hb hn0 hz h1 h2 hr o hop) (by simp[IK.link])
 |copy t u e d s d' s' td n bytes agg ht hs h1 h2=>exact lift' (Ea h call ht hs h1 h2 hr o hop) (by simp[IK.link])
 |aj=>simp[IK.calls] at hn
 |fH=>simp[IK.calls] at hn
 |mkMap t=>exact lift' (CJ h call hr o hop) (by simp[IK.link])
 |lookup t k e m m' x x' zero ok d ed ht hk hkd hz hm hx=>exact lift' (AR h call ht hk hkd hz hm hx hr o hop) (by simp[IK.link])
 |jy t k e m m' x x' v v' d ed ht hk hkd hm hx hv=>exact lift' (AV h call ht hk hkd hm hx hv hr o hop) (by simp[IK.link])
 |kt t k e m m' ht hm=>exact lift' (AU h call ht hm hr o hop) (by simp[IK.link])
 |fa t x x' k ht hx=>exact lift' (xG h call ht hx hr o hop) (by simp[IK.link])
 |ee x x' hx=>exact lift' (yh h call hx hr o hop) (by simp[IK.link])
end Go.Idl
namespace Go.Idl
open Classical
variable {X:Ctx}{N:Nat}{G:Gh}{st:St}{a:Act}{w:World}
def mV (X:Ctx) (G:Gh) (w:World) (m':IM) (v:IV) (r:Value) (w':World):Prop:=∃G',MR X G' m' w'∧WF X G' w'∧VR G' v r∧Step G w G' w'
noncomputable def Gh.O1 (G:Gh) (h:List Nat) (b j:Nat):Option Loc:=match G.ow b j with | some (.B id off)=>if id∈h then none else some (.B id off) | _=>none
noncomputable def Gh.callee (G:Gh) (h:List Nat) (n:Nat):Gh where
 dB:=G.dB
 bx:=G.bx
 lb:=fun _=>none
 ow:=G.O1 h
 cd:=fun id=>G.cd id||h.contains id
 gj:=n
noncomputable def Gh.back (G:Gh) (h:List Nat) (G':Gh):Gh where
 dB:=G'.dB
 bx:=G'.bx
 lb:=G.lb
 ow:=fun b j=>match G.ow b j,G.O1 h b j with | some l,none=>some l | _,_=>G'.ow b j
 cd:=G.cd
 gj:=G.gj
theorem i5 {h:List Nat}{n:Nat}{b j:Nat}{l:Loc}(e:(G.callee h n).ow b j=some l):G.ow b j=some l∧∃id off,l=.B id off∧id∉h:=by
 simp only[Gh.callee,Gh.O1] at e;split at e
 ·rename_i id off q;split at e
  ·cases e
  ·rename_i q2;simp only[Option.some.injEq] at e;subst e;exact⟨q,id,off,rfl,q2⟩
 ·cases e
theorem fI {h:List Nat}{n:Nat}{b j:Nat}(e:G.ow b j=none):(G.callee h n).ow b j=none:=by simp[Gh.callee,Gh.O1,e]
theorem VR.callee {h:List Nat}{n:Nat}{v:IV}{r:Value}(k:VR G v r):VR (G.callee h n) v r:=VR.mono (G:=G) (G':=G.callee h n) (fun _ _ _ e=>e) (fun _ _ e=>e) k
theorem eK.callee {h:List Nat}{n:Nat}{v:aS}{r:Obj}(k:eK X G v r):eK X (G.callee h n) v r:=eK.mono (G:=G) (G':=G.callee h n) (fun _ _ _ e=>e) (fun _ _ e=>e) k
theorem ko {h:List Nat}{n:Nat}{b:Nat}(k:(G.callee h n).p8 b):G.p8 b:=by
 rcases k with ⟨id,e1,e2⟩ | ⟨k,e⟩
 ·simp only[Gh.callee,Bool.or_eq_false_iff] at e2;exact .inl ⟨id,e1,e2.1⟩
 ·simp[Gh.callee] at e
theorem WF.callee (h:List Nat) {n:Nat}(hn:n≤w.heap.size) (hw:WF X G w):WF X (G.callee h n) w where
 dB:=hw.dB
 inj:=hw.inj
 ja i j b e:=by simp[Gh.callee] at e
 fB i k b _ e:=by simp[Gh.callee] at e
 eY b k:=by
  rcases k with ⟨id,e⟩ | ⟨k,e⟩
  ·exact hw.eY b (.inl ⟨id,e⟩)
  ·simp[Gh.callee] at e
 ew b o k:=by
  rcases k with ⟨id,e⟩ | ⟨k,e⟩
  ·exact hw.ew b o (.inl ⟨id,e⟩)
  ·simp[Gh.callee] at e
 eU b o k:=by
  rcases k with ⟨id,e⟩ | ⟨k,e⟩
  ·exact fI (hw.eU b o (.inl ⟨id,e⟩))
  ·simp[Gh.callee] at e
 fL b o l e:=hw.fL b o l (i5 e).1
 dR b o l e:=hw.dR b o l (i5 e).1
 iD g row hr:=(hw.iD g row hr).callee
 gj:=hn
theorem MR.callee {m m1 : IM} (hm : MR X G m w) {h : List Nat} {n : Nat} (hh : eJ m h = some m1) (hb : ∀ id ∈ h, ∃ b, G.bx id = some b) : MR X (G.callee h n) m1 w := by
  obtain ⟨h1, h2, h3⟩ := nL _ _ _ hh;refine { bx := ?_, own := ?_, kY := fun id b e => by rw [h1]; exact hm.kY id b e, cd := ?_ }
  · intro id hn;rw [h3] at hn ⊢;split at hn
    · exact absurd rfl hn
    · rename_i q;rw [if_neg q];obtain ⟨b, ro, e1, e2, e3⟩ := hm.bx id hn;exact ⟨b, ro, e1, e2, e3.callee⟩
  · intro id cs cp off sz e1 e2 b r e3 e4;rw [h3] at e1;split at e1
    · cases e1
    · rename_i q;have ho := hm.own id cs cp off sz e1 e2 b r e3 e4;intro b' o sp len cap e5;obtain ⟨k1, k2⟩ := ho b' o sp len cap e5;refine ⟨k1, fun j hj1 hj2 => ?_⟩;simp only [Gh.callee, Gh.O1, k2 j hj1 hj2, q, if_false]
  · intro id e;rw [h1, h3];simp only [Gh.callee, Bool.or_eq_true, List.contains_iff_mem] at e;rcases e with e | e
    · obtain ⟨q1, q2⟩ := hm.cd id e
      exact ⟨q1, by split; · rfl
                    · exact q2⟩
    · obtain ⟨b, hb⟩ := hb id e;exact ⟨hm.kY id b hb, by rw [if_pos e]⟩
theorem NY {f:Nat→Bool}{lk:List (Nat×Loc)}{i:Nat}{l:Loc}(h:(i,l)∈je f lk):(i,l)∈lk∧l ≠ .marked∧∀id off,l=.B id off→f id=false:=by
 induction lk with
 |nil=>simp[je] at h
 |cons p lk ih =>
  obtain⟨i',l'⟩:=p;simp only[je] at h;split at h
  ·split at h
   ·exact⟨List.mem_cons_of_mem _ (ih h).1,(ih h).2⟩
   ·rename_i q;rcases List.mem_cons.1 h with e | h
    ·cases e;exact⟨List.mem_cons_self,by simp,fun id off e=>by cases e;simpa using q⟩
    ·exact⟨List.mem_cons_of_mem _ (ih h).1,(ih h).2⟩
  ·exact⟨List.mem_cons_of_mem _ (ih h).1,(ih h).2⟩
  ·rename_i q1 q2;rcases List.mem_cons.1 h with e | h
   ·cases e;exact⟨List.mem_cons_self,q2,fun id off e=>absurd e (q1 id off)⟩
   ·exact⟨List.mem_cons_of_mem _ (ih h).1,(ih h).2⟩
theorem Step.still {G':Gh}{w':World}(s:Step G w G' w') {b:Nat}{o:Obj}(hb:w.heap[b]?=some o) (hn:¬G.p8 b) (ho:∀j,G.ow b j=none) (hold:b<G.gj):w'.heap[b]?=some o:=by
 cases o with
 |cells c t f =>
  obtain⟨c',f',e1,e2,e3,e4⟩:=s.cells b c t f hb hn;have hf:f'=f:=e4.resolve_right (fun q=>by have:=q.1;omega);subst hf;have:c'=c:=by apply Array.ext_getElem?;intro i;exact e3 i (ho i)
  rw[e1,this]
 |_=>exact s.other b _ hb hn (fun c t f e=>by cases e)
theorem vV (h:SR X N G st a w) {hs:List Nat}(hb:∀id∈hs,∃b,G.bx id=some b) {m1 m' m2:IM}(h1:eJ st.m hs=some m1) (h2:cf st.m m' hs=some m2) {G':Gh}{w':World}(hm:MR X G' m' w') (hw:WF X G' w')
  (s:Step (G.callee hs w.heap.size) w G' w'):SR X N (G.back hs G') { st with m:=m2,lk:=je (fun i=>!hs.contains i) st.lk } a w'∧Step G w (G.back hs G') w':=by
 obtain⟨a1,a2,a3⟩:=lH _ _ _ _ h2;have mi:∀b o v,G.dB b o=some v→(G.back hs G').dB b o=some v:=s.dB;have mb:∀id b,G.bx id=some b→(G.back hs G').bx id=some b:=s.bx;have ml:∀k b,G.lb k=some b→(G.back hs G').lb k=some b:=fun _ _ e=>e;have owlt:∀b j l,G.ow b j=some l→b<w.heap.size:=fun b j l e=>by
  obtain⟨v,hv⟩:=Option.isSome_iff_exists.1 (h.wf.dR b j l e).1;exact World.block_lt_of_cell? _ _ hv
 have owG:∀b j l,G.ow b j=some l→(G.callee hs w.heap.size).ow b j=none→(G.back hs G').ow b j=some l:=fun b j l e e2=>by simp only[Gh.back,e,show G.O1 hs b j=none from e2]
 have owN:∀b j,G.ow b j=none→(G.back hs G').ow b j=G'.ow b j:=fun b j e=>by simp only[Gh.back,e]
 have owB:∀b j l,(G.callee hs w.heap.size).ow b j=some l→(G.back hs G').ow b j=G'.ow b j:=fun b j l e=>by simp only[Gh.back,(i5 e).1,show G.O1 hs b j=some l from e]
 have notB:∀b j l,G.ow b j=some l→(∀id off,l=.B id off→id∈hs)→(G.callee hs w.heap.size).ow b j=none:=fun b j l e q=>by
  cases e2:(G.callee hs w.heap.size).ow b j with
  |none=>rfl
  |some l2 =>obtain⟨e3,id,off,rfl,e4⟩:=i5 e2;rw[e] at e3;simp only[Option.some.injEq] at e3;exact absurd (q id off e3) e4
 have ownOf:∀{l sz r},gR G l sz r→(∀id off,l=.B id off→id∈hs)→gR (G.back hs G') l sz r:=fun {l sz r} ho q b o sp len cap e=>by
  obtain⟨k1,k2⟩:=ho b o sp len cap e;exact⟨k1,fun j hj1 hj2=>owG b j l (k2 j hj1 hj2) (notB b j l (k2 j hj1 hj2) q)⟩
 have lbN:∀k b,G.lb k=some b→¬(G.callee hs w.heap.size).p8 b:=fun k b e q=>by
  rcases q with ⟨id,e1,_⟩ | ⟨k',e1⟩
  ·exact h.wf.fB id k b e1 e
  ·simp[Gh.callee] at e1
 have hidN:∀id b,id∈hs→G.bx id=some b→¬(G.callee hs w.heap.size).p8 b:=fun id b hi e q=>by
  rcases q with ⟨id',e1,e2⟩ | ⟨k',e1⟩
  ·have:=h.wf.inj _ _ _ e e1;subst this;simp[Gh.callee,hi] at e2
  ·simp[Gh.callee] at e1
 have lbStill:∀k b o,G.lb k=some b→w.heap[b]?=some o→w'.heap[b]?=some o:=fun k b o e e2 =>
  s.still e2 (lbN k b e) (fun j=>fI (h.wf.eU b j (.inr ⟨k,e⟩))) (gw e2)
 have hidStill:∀id b o,id∈hs→G.bx id=some b→w.heap[b]?=some o→w'.heap[b]?=some o:=fun id b o hi e e2 =>
  s.still e2 (hidN id b hi e) (fun j=>fI (h.wf.eU b j (.inl ⟨id,e⟩))) (gw e2)
 have cellS:∀{b o v},w.cell? ⟨b,o,none⟩=some v→(∀x,w.heap[b]?=some x→w'.heap[b]?=some x)→w'.cell? ⟨b,o,none⟩=some v:=fun {b o v} e q=>by
  have hlt:=World.block_lt_of_cell? _ _ e;obtain⟨x,hx⟩:∃x,w.heap[b]?=some x:=⟨_,Array.getElem?_eq_getElem hlt⟩
  rw[World.cell?_of_block ((q x hx).trans hx.symm)];exact e
 have mo:∀{x ro},eK X G x ro→eK X (G.back hs G') x ro:=fun hh=>hh.mono mi mb;have mo':∀{x ro},eK X G' x ro→eK X (G.back hs G') x ro:=fun hh=>eK.mono (G:=G') (G':=G.back hs G') (fun _ _ _ e=>e) (fun _ _ e=>e) hh;refine⟨{ size:=h.size,env:=?_,own:=?_,lk:=?_,lb:=?_,dE:=?_,dO:=h.dO,mr:=?_,wf:=?_ },?_⟩
 ·intro i v c e;exact⟨(h.env i v c e).1.mono mi mb ml,(h.env i v c e).2⟩
 ·intro i v sz e;exact ownOf (h.own i v sz e) (fun _ _ q=>by cases q)
 ·intro i l hmem;obtain⟨k1,k2,k3⟩:=NY hmem;have hl:=h.lk i l k1
  cases l with
  |slot j=>exact hl
  |L k off =>obtain⟨b,e1,e2⟩:=hl;exact⟨b,e1,cellS e2 (fun x hx=>lbStill k b x e1 hx)⟩
  |B id off =>
   obtain⟨b,e1,e2⟩:=hl;have hi:id∈hs:=by have:=k3 id off rfl;simpa using this
   exact⟨b,mb _ _ e1,cellS e2 (fun x hx=>hidStill id b x hi e1 hx)⟩
  |marked=>exact absurd rfl k2
 ·intro k hn;obtain⟨b,ro,e1,e2,e3⟩:=h.lb k hn;exact⟨b,ro,e1,lbStill k b ro e1 e2,mo e3⟩
 ·intro k cs cp off sz e1 e2 b r e3 e4;obtain⟨b',ro,q1,q2,q3⟩:=h.lb k (by rw[e1];simp);replace e3:G.lb k=some b:=e3;rw[e3] at q1;simp only[Option.some.injEq] at q1;subst q1;have e5:w.cell? ⟨b,off,none⟩=some r:=by rw[←World.cell?_of_block ((lbStill k b ro e3 q2).trans q2.symm)];exact e4
  exact ownOf (h.dE k cs cp off sz e1 e2 b r e3 e5) (fun _ _ q=>by cases q)
 ·refine { bx:=?_,own:=?_,kY:=fun id b e=>by rw[a1];exact hm.kY id b e,cd:=?_ }
  ·intro id hn;simp only[a3] at hn ⊢;split at hn
   ·rename_i q;rw[if_pos q];obtain⟨b,ro,e1,e2,e3⟩:=h.mr.bx id hn;exact⟨b,ro,mb _ _ e1,hidStill id b ro q.1 e1 e2,mo e3⟩
   ·rename_i q;rw[if_neg q];obtain⟨b,ro,e1,e2,e3⟩:=hm.bx id hn;exact⟨b,ro,e1,e2,mo' e3⟩
  ·intro id cs cp off sz e1 e2 b r e3 e4;simp only[a3] at e1;split at e1
   ·rename_i q;obtain⟨b',ro,q1,q2,q3⟩:=h.mr.bx id (by rw[e1];simp);have:b'=b:=by have:=mb _ _ q1;rw[e3] at this;exact (Option.some.inj this).symm
    subst this;have e5:w.cell? ⟨b',off,none⟩=some r:=by rw[←World.cell?_of_block ((hidStill id b' ro q.1 q1 q2).trans q2.symm)];exact e4
    exact ownOf (h.mr.own id cs cp off sz e1 e2 b' r q1 e5) (fun _ _ e=>by cases e;exact q.1)
   ·have ho:=hm.own id cs cp off sz e1 e2 b r e3 e4;intro b' o sp len cap e5;obtain⟨k1,k2⟩:=ho b' o sp len cap e5;refine⟨k1,fun j hj1 hj2=>?_⟩;have e6:=k2 j hj1 hj2
    cases e7:G.ow b' j with
    |none=>rw[owN b' j e7];exact e6
    |some l =>have:=s.fY b' j _ (owlt b' j l e7) e6;obtain⟨l2,hl2⟩:=Option.isSome_iff_exists.1 this;rw[owB b' j l2 hl2];exact e6
  ·intro id e;have e':G'.cd id=true:=by rw[s.cd];simp only[Gh.callee,Bool.or_eq_true];exact .inl e
   obtain⟨q1,q2⟩:=hm.cd id e';refine⟨by rw[a1];exact q1,?_⟩;simp only[a3];split
   ·exact (h.mr.cd id e).2
   ·exact q2
 ·refine { dB:=hw.dB,inj:=hw.inj,ja:=h.wf.ja,fB:=?_,eY:=?_,ew:=?_,eU:=?_,fL:=?_,dR:=?_,gj:=Nat.le_trans h.wf.gj s.size,iD:=fun g row hr=>VR.mono (G:=G') (G':=G.back hs G') (fun _ _ _ e=>e) (fun _ _ e=>e) (hw.iD g row hr)}
  ·intro i k b e1 e2;rcases s.gm i b e1 with e | e
   ·exact h.wf.fB i k b e e2
   ·have:=h.wf.eY b (.inr ⟨k,e2⟩);omega
  ·intro b q;rcases q with ⟨i,e⟩ | ⟨k,e⟩
   ·exact hw.eY b (.inl ⟨i,e⟩)
   ·exact Nat.lt_of_lt_of_le (h.wf.eY b (.inr ⟨k,e⟩)) s.size
  ·intro b o q;rcases q with ⟨i,e⟩ | ⟨k,e⟩
   ·exact hw.ew b o (.inl ⟨i,e⟩)
   ·cases e2:(G.back hs G').dB b o with
    |none=>rfl
    |some v =>
     have hbx:G.boxed b:=.inr ⟨k,e⟩;rcases s.eW b o v (h.wf.eY b hbx) (lbN k b e) e2 with e3 | e3
     ·have:=h.wf.ew b o hbx;rw[show (G.callee hs w.heap.size).dB b o=G.dB b o from rfl,this] at e3;cases e3
     ·rw[fI (h.wf.eU b o hbx)] at e3;cases e3
  ·intro b o q
   cases e2:G.ow b o with
   |none =>
    rw[owN b o e2];rcases q with ⟨i,e⟩ | ⟨k,e⟩
    ·exact hw.eU b o (.inl ⟨i,e⟩)
    ·cases e3:G'.ow b o with
     |none=>rfl
     |some l =>have:=s.fY b o l (h.wf.eY b (.inr ⟨k,e⟩)) e3;rw[fI e2] at this;cases this
   |some l =>
    exfalso;rcases q with ⟨i,e⟩ | ⟨k,e⟩
    ·rcases s.gm i b e with e3 | e3
     ·rw[h.wf.eU b o (.inl ⟨i,e3⟩)] at e2;cases e2
     ·have:=owlt b o l e2;omega
    ·rw[h.wf.eU b o (.inr ⟨k,e⟩)] at e2;cases e2
  ·intro b o l e
   cases e2:G.ow b o with
   |none=>rw[owN b o e2] at e;exact hw.fL b o l e
   |some l' =>
    cases e3:(G.callee hs w.heap.size).ow b o with
    |some l2=>rw[owB b o l2 e3] at e;exact hw.fL b o l e
    |none =>
     cases e4:(G.back hs G').dB b o with
     |none=>rfl
     |some v =>
      have hnb:¬(G.callee hs w.heap.size).p8 b:=fun q=>by
       have:=h.wf.eU b o (ko q).boxed;rw[this] at e2;cases e2
      rcases s.eW b o v (owlt b o l' e2) hnb e4 with e5 | e5
      ·have:=h.wf.fL b o l' e2;rw[show (G.callee hs w.heap.size).dB b o=G.dB b o from rfl,this] at e5;cases e5
      ·rw[e3] at e5;cases e5
  ·intro b o l e
   cases e2:G.ow b o with
   |none=>rw[owN b o e2] at e;exact hw.dR b o l e
   |some l' =>
    cases e3:(G.callee hs w.heap.size).ow b o with
    |some l2=>rw[owB b o l2 e3] at e;exact hw.dR b o l e
    |none =>
     obtain⟨k1,k2⟩:=h.wf.dR b o l' e2;have hnb:¬(G.callee hs w.heap.size).p8 b:=fun q=>by
      have:=h.wf.eU b o (ko q).boxed;rw[this] at e2;cases e2
     obtain⟨v,hv⟩:=Option.isSome_iff_exists.1 k1;obtain⟨rc,t,f,hheap⟩:∃rc t f,w.heap[b]?=some (.cells ⟨rc⟩ t f):=by
      unfold World.cell? at hv;split at hv
      ·rename_i c e f hb;exact⟨c.toList,e,f,hb⟩
      ·cases hv
     obtain⟨c',f',q1,q2,q3,q5⟩:=s.cells b _ t f hheap hnb;have hf:f'=f:=q5.resolve_right (fun q=>by have q:=q.1;have:=gw hheap;simp only[Gh.callee] at q;omega);subst hf;have q4:=q3 o e3;refine⟨?_,?_⟩
     ·rw[cC (rc:=c'.toList) (by simpa using q1)];rw[cC hheap] at hv;have:c'[o]?=some v:=by rw[q4];simpa using hv
      simp[this]
     ·rw[gV hheap] at k2;rw[gV (rc:=c'.toList) (by simpa using q1)];exact k2
 ·refine { os:=s.os,tape:=s.tape,output:=s.output,size:=s.size,dB:=mi,bx:=mb,other:=fun b o e nb nc=>s.other b o e (fun q=>nb (ko q)) nc,cells:=?_,eW:=?_,fY:=?_,fh:=?_,cd:=rfl,gj:=rfl,gm:=s.gm,loop:=s.loop }
  ·intro b c t f e nb;obtain⟨c',f',q1,q2,q3,q5⟩:=s.cells b c t f e (fun q=>nb (ko q));have hf:f'=f:=q5.resolve_right (fun q=>by have q:=q.1;have:=gw e;simp only[Gh.callee] at q;omega);exact⟨c',f',q1,q2,fun i hi=>q3 i (fI hi),.inl hf⟩
  ·intro b o v hb nb e;rcases s.eW b o v hb (fun q=>nb (ko q)) e with e | e
   ·exact .inl e
   ·obtain⟨l,hl⟩:=Option.isSome_iff_exists.1 e;exact .inr (by rw[(i5 hl).1];rfl)
  ·intro b o l hb e
   cases e2:G.ow b o with
   |some l'=>rfl
   |none =>rw[owN b o e2] at e;have:=s.fY b o l hb e;rw[fI e2] at this;cases this
  ·intro b hb q;rcases q with ⟨i,e1,e2⟩ | ⟨k,e⟩
   ·rcases s.gm i b e1 with e | e
    ·exact .inl ⟨i,e,e2⟩
    ·omega
   ·exact .inr ⟨k,e⟩
end Go.Idl
namespace Go.Idl
open Classical
variable {X:Ctx}{N:Nat}{G:Gh}{st:St}{a:Act}{w:World}
def qg (X:Ctx) (f:FuncId) (rs:List Value) (w:World) (R:Value→World→Prop):Prop :=
 (callFunc f ⟨rs⟩).run X.P w=.ok (.enter f ⟨rs⟩) w∧CallsIn Fence.wide 0 X.P f ⟨rs⟩ w (fun e w'=>∃r,e=.returned r∧R r w')
def Reach (X:Ctx) (f:FuncId) (rs:List Value) (w:World) (R:Value→World→Prop):Prop :=
 qg X f rs w R∨(∃r w',(callFunc f ⟨rs⟩).run X.P w=.ok (.value r) w'∧R r w')
def qh (X:Ctx) (b:Nat) (rs:List Value) (w:World) (R:Value→World→Prop):Prop :=
 ∃fn tm as bd,(Instr.yield b ⟨rs⟩).run X.P w=.ok (.round b fn tm as bd) w∧RoundIn Fence.wide 0 X.P b fn tm as bd w (fun e w'=>∃r,e=.returned r∧R r w')
theorem qg.mono {f:FuncId}{rs:List Value}{R R':Value→World→Prop}(h:qg X f rs w R) (hr:∀r w',R r w'→R' r w'):qg X f rs w R' :=
 ⟨h.1,h.2.mono fun e w' ⟨r,q1,q2⟩=>⟨r,q1,hr _ _ q2⟩⟩
theorem Reach.mono {f:FuncId}{rs:List Value}{R R':Value→World→Prop}(h:Reach X f rs w R) (hr:∀r w',R r w'→R' r w'):Reach X f rs w R':=by
 rcases h with h | ⟨r,w',h1,h2⟩
 ·exact .inl (h.mono hr)
 ·exact .inr ⟨r,w',h1,hr _ _ h2⟩
theorem qh.mono {b:Nat}{rs:List Value}{R R':Value→World→Prop}(h:qh X b rs w R) (hr:∀r w',R r w'→R' r w'):qh X b rs w R':=by obtain⟨fn,tm,as,bd,h1,h2⟩:=h;exact⟨fn,tm,as,bd,h1,h2.mono fun e w' ⟨r,q1,q2⟩=>⟨r,q1,hr _ _ q2⟩⟩
def BE (X:Ctx) (G:Gh):Callee→List IV→List Value→World→(Value→World→Prop)→Prop
 |.f f,args,rs,w,R=>Reach X f rs w R∧((∃id,IV.nT id∈args)→qg X f rs w R)
 |.y id,_,rs,w,R=>∀b,G.bx id=some b→qh X b rs w R
def kV (X:Ctx) (call:bW):Prop:=∀c args m v m',call c args m=some (v,m')→∀G w rs,MR X G m w→WF X G w→(∀k,G.lb k=none)→c9 G args rs→BE X G c args rs w (mV X G w m' v)
theorem nK (h:SR X N G st a w):∀(l:List Arg) (id:Nat),id∈aM st.env l→∃b,G.bx id=some b
 |[],id,hm=>by simp[aM] at hm
 |.c _::l,id,hm=>nK h l id (by simpa[aM] using hm)
 |.t i::l,id,hm=>by
  simp only[aM] at hm;split at hm
  ·rename_i id' o c e;rcases List.mem_cons.1 hm with rfl | hm
   ·have hv:=(h.env i _ _ e).1;generalize a.tmps.getD i undef=q at hv
    cases hv with
    |pB _ _ b hb=>exact⟨b,hb⟩
   ·exact nK h l id hm
  ·exact nK h l id hm
theorem oP:∀(xs ys:List IV) (k:Nat),aC (xs++ys)=some k→(∃i,aC xs=some i)∧∃j,aC ys=some j
 |[],ys,k,h=>⟨⟨0,rfl⟩,k,h⟩
 |x::xs,ys,k,h=>by
  simp only[List.cons_append,aC] at h;split at h
  ·rename_i p q e1 e2;obtain⟨⟨i,hi⟩,h2⟩:=oP xs ys q e2;exact⟨⟨Nat.max p i,by simp[aC,e1,hi]⟩,h2⟩
  ·cases h
theorem FE:∀(args:List IV) (rs:List Value) (k:Nat),aC (args.flatMap IV.cells)=some k→nY G args rs→c9 G args rs
 |[],rs,k,_,hs=>by rw[hs.u5];exact c9.nil
 |x::args,rs,k,h,hs=>by
  obtain⟨r,rs',rfl,h1,h2⟩:=hs.cons_inv;simp only[List.flatMap_cons] at h;obtain⟨⟨i,hi⟩,j,hj⟩:=oP _ _ _ h;exact c9.cons (h1.vr (lE hi).2) (FE args rs' j hj h2)
theorem oq (h:SR X N G st a w) {call:bW}(hc:kV X call) {c:Callee}{args:List IV}{fk:List Arg}{v:IV}{cp:cV}{st':St}(hr:dC call st c args fk=some (v,cp,st')) {rs:List Value}(ha:nY G args rs) :
  BE X G c args rs w (fun r w'=>∃G',OR X N G w st' a v cp r G' w'):=by
 unfold dC at hr;simp only[aK] at hr;split at hr
 ·rename_i k _ e0 e
  cases e
  split at hr
  ·cases hr
  ·rename_i m1 hm1;split at hr
   ·cases hr
   ·rename_i v2 m2 hcall;split at hr
    ·rename_i m3 lk hm3 e2
     cases e2
     simp only[Option.some.injEq,Prod.mk.injEq] at hr;obtain⟨rfl,rfl,rfl⟩:=hr;have hb:=nK h fk;have hva:c9 (G.callee (aM st.env fk) w.heap.size) args rs:=c9.mono (G:=G) (G':=G.callee _ _) (fun _ _ _ e=>e) (fun _ _ e=>e) (FE args rs k e0 ha);have key:=hc c args m1 v2 m2 hcall (G.callee (aM st.env fk) w.heap.size) w rs (h.mr.callee hm1 hb) (h.wf.callee _ (Nat.le_refl _)) (fun _=>rfl) hva;have fin:∀r w',mV X (G.callee (aM st.env fk) w.heap.size) w m2 v2 r w'→∃G',OR X N G w { st with m:=m3,lk:=je (fun i=>!(aM st.env fk).contains i) st.lk } a v2 .any r G' w':=by rintro r w' ⟨G',k1,k2,k3,k4⟩;obtain⟨q1,q2⟩:=vV h hb hm1 hm3 k1 k2 k4;exact⟨_,q1,SV.of (VR.mono (G:=G') (G':=G.back _ G') (fun _ _ _ e=>e) (fun _ _ e=>e) k3),q2,fun _ e=>by cases e⟩
     cases c with
     |f f=>exact⟨Reach.mono key.1 fin,fun q=>qg.mono (key.2 q) fin⟩
     |y id=>exact fun b hb'=>qh.mono (key b hb') fin
    ·cases hr
 ·cases hr
section
variable {ro:Option Nat}{K:Act→World→Prop}{Q:Exit→Act→World→Prop}{o:Oper}
theorem DG (hnd:∀c,o.op ≠ .defer c) {r:Value}{w':World}(h:gy X.P o a.eval w r w') (hk:K (a.put o.dst r) w'):o.wpIn (Fr ro) 0 X.P a w K Q:=by
 refine⟨fun _ _=>trivial,?_⟩;rw[Oper.semAt_eq _ _ _ hnd];rcases h with h | ⟨h,rfl⟩
 ·rw[h];exact hk
 ·rw[h];exact hk
theorem Cc (ρ:Operand→Value) {g:Operand}{xs:Array Operand}{ts:Array TypeId}(ho:o.op=.call ⟨.value g,xs,ts⟩) {fv:Fn}{fi ca:Array Value}(hg:ρ g=.func fv fi ca) :
  execOp ρ o=invoke (.fn fv ca) (fi++xs.map ρ):=by
 simp only[execOp,ho,resolve,hg,Deferred.ofValue];rfl
theorem qd {g:Operand}{xs:Array Operand}{ts:Array TypeId}(ho:o.op=.call ⟨.value g,xs,ts⟩) {f:FuncId}{fi ca:List Value}(hg:a.eval g=.func (.func f) ⟨fi⟩ ⟨ca⟩) {R:Value→World→Prop}
  (h:Reach X f (fi++xs.toList.map a.eval++ca) w R) (hk:∀r w',R r w'→K (a.put o.dst r) w'):o.wpIn (Fr ro) 0 X.P a w K Q:=by
 have hargs:(⟨fi⟩++xs.map a.eval++⟨ca⟩:Array Value)=⟨fi++xs.toList.map a.eval++ca⟩:=by apply Array.ext';simp
 refine⟨fun _ _=>trivial,?_⟩;rw[Oper.semAt_eq _ _ _ (fun c e=>by rw[ho] at e;cases e),Cc _ ho hg];simp only[invoke,hargs];rcases h with ⟨h1,h2⟩ | ⟨r,w',h1,h2⟩
 ·rw[h1];refine⟨fun e=>by simp[Fr,Fence.wide] at e,?_⟩;refine CallsIn.mono (F:=Fence.wide) h2 ?_;rintro e w' ⟨r,rfl,hr⟩;exact hk r w' hr
 ·rw[h1];exact hk r w' h2
theorem yy {g:Operand}{xs:Array Operand}{ts:Array TypeId}(ho:o.op=.call ⟨.value g,xs,ts⟩) {b:Nat}(hg:a.eval g=.func (.yield b) #[] #[]) {R:Value→World→Prop}
  (h:qh X b (xs.toList.map a.eval) w R) (hk:∀r w',R r w'→K (a.put o.dst r) w'):o.wpIn (Fr ro) 0 X.P a w K Q:=by
 obtain⟨fn,tm,as,bd,h1,h2⟩:=h;have hargs:(#[]++xs.map a.eval:Array Value)=⟨xs.toList.map a.eval⟩:=by apply Array.ext';simp
 refine⟨fun _ _=>trivial,?_⟩;rw[Oper.semAt_eq _ _ _ (fun c e=>by rw[ho] at e;cases e),Cc _ ho hg];simp only[invoke,hargs,h1];refine⟨fun e=>by simp[Fr,Fence.wide] at e,?_⟩;refine RoundIn.mono (F:=Fence.wide) h2 ?_;rintro e w' ⟨r,rfl,hr⟩;exact hk r w' hr
end
def yb (X:Ctx) (N:Nat) (G:Gh) (w:World) (df:List Deferred) (st':St) (K:Act→World→Prop):Prop :=
 ∀G' a' w',SR X N G' st' a' w'→Step G w G' w'→a'.defers=df→K a' w'
theorem KR.Lu {P:Program}{rows:Nat→Option (List IV)}{op:Op}{k:IK}(h:KR P rows op k):∀c,op ≠ .defer c:=by
 intro c e;subst e
 cases h with
 |p _ _ _ _ hp _=>cases hp
theorem za (h:SR X N G st a w) {o:dh}{st1 st2 st':St}{v:IV}{c:cV}(hlt:∀d,o.dst=some d→d<N) {r:Value}{G1:Gh}{w1:World}(hor:OR X N G w st1 a v c r G1 w1) (hp:st1.put o.dst v c=some st2)
  (hlk:∀l,o.k.link st.env=some l→FA G1 a w1 r l)
  (hst:(match o.dst,o.k.link st.env with | some d,some l=>if l=.slot d then some st2 else some { st2 with lk:=(d,l)::st2.lk } | _,_=>some st2)=some st') :
  ∃G2,SR X N G2 st' (a.put o.dst r) w1∧Step G w G2 w1:=by
 obtain⟨G2,h1,h2,h3,h4,_⟩:=zp hor hlt hp;refine⟨G2,?_,h2⟩;split at hst
 ·rename_i d l ed el;split at hst
  ·simp only[Option.some.injEq] at hst;subst hst;exact h1
  ·rename_i hne;simp only[Option.some.injEq] at hst;subst hst;refine { size:=h1.size,env:=h1.env,own:=h1.own,lk:=?_,lb:=h1.lb,dE:=h1.dE,dO:=h1.dO,mr:=h1.mr,wf:=h1.wf };intro i l' hm;rcases List.mem_cons.1 hm with e | hm
   ·cases e
    have hv:=hlk l el;have hd:d<a.tmps.size:=by rw[hor.sr.size];exact hlt d ed
    rw[ed]
    cases l with
    |slot j =>simp only[gz];rw[iu hd,hJ (fun e=>hne (by rw[e]))];exact hv
    |L k off=>simp only[gz];rw[iu hd];obtain⟨b,e1,e2⟩:=hv;exact⟨b,by rw[h3];exact e1,e2⟩
    |B k off=>simp only[gz];rw[iu hd];obtain⟨b,e1,e2⟩:=hv;exact⟨b,by rw[h4];exact e1,e2⟩
    |marked =>simp only[gz];rw[iu hd];exact fun b o sp len cap e=>(hv b o sp len cap e).same (h2.gj.trans hor.step.gj.symm)
   ·exact h1.lk i l' hm
 ·simp only[Option.some.injEq] at hst;subst hst;exact h1
theorem CQ (h:SR X N G st a w) {call:bW}(hc:kV X call) {ro:Option Nat}{K:Act→World→Prop}{Q:Exit→Act→World→Prop}{ops:Array Oper}{o:Oper}{io:dh}(hO:VY X.P X.rows N ops o io)
  {st':St}(hr:io.run call st=some st') (hK:yb X N G w a.defers st' K) :
  if Region.wanted o (yielded ops a.tmps) then o.wpIn (Fr ro) 0 X.P a w K Q else (∀f,o.about X.P w a.eval=some f→(Fr ro).fn f)∧K (a.put o.dst undef) w:=by
 have hnd:=hO.k.Lu
 have hrun:(match io.k.run call st with
   |some (v,c,st')=>match st'.put io.dst v c with
    |some st'=>match io.dst,io.k.link st.env with
     |some d,some l=>if l=.slot d then some st' else some { st' with lk:=(d,l)::st'.lk }
     |_,_=>some st'
    |none=>none
   |none=>none)=some st'→o.wpIn (Fr ro) 0 X.P a w K Q:=by
  intro hr;split at hr
  ·rename_i v c st1 e1;split at hr
   ·rename_i st2 e2
    cases hn:io.k.calls with
    |false =>obtain⟨r,w1,G1,k1,k2,k3⟩:=KD h call hO.k hn e1;obtain⟨G2,k4,k5⟩:=za h hO.lt k2 e2 k3 hr;refine DG hnd k1 ?_;rw[hO.dst];exact hK G2 _ w1 k4 k5 (by simp)
    |true =>
     have fin:∀r w1,(∃G1,OR X N G w st1 a v c r G1 w1)→K (a.put o.dst r) w1:=by
      rintro r w1 ⟨G1,k2⟩;have hnl:∀l,io.k.link st.env≠some l:=by
       intro l e
       cases hk:io.k<;>rw[hk] at hn e<;>first | (simp[IK.calls] at hn;done) | (simp[IK.link] at e)
      obtain⟨G2,k4,k5⟩:=za h hO.lt k2 e2 (fun l e=>absurd e (hnl l)) hr;rw[hO.dst];exact hK G2 _ w1 k4 k5 (by simp)
     have hk:=hO.k;generalize hop:o.op=op at hk;generalize hik:io.k=k at hk hn e1
     cases hk with
     |aj f xs ts as fk ha =>
      simp only[IK.run] at e1;split at e1
      ·rename_i vs e3;have hs:=nY.of h ha e3;have:=oq h hc e1 hs;exact qd (fi:=[]) (ca:=[]) hop rfl (by simpa using this.1) fin
      ·cases e1
     |fH g g' xs ts as fk hg ha =>
      simp only[IK.run] at e1;split at e1
      ·rename_i vs e3;have hs:=nY.of h ha e3;split at e1
       ·rename_i f fs cs e4;have hgv:=SV.vr (h.rd hg e4) rfl;generalize hq:a.eval g=q at hgv
        cases hgv with
        |func _ _ _ rf rc hf hcl k1 k2 =>
         have h1:nY G fs rf:=⟨hf,fun i v r q1 q2=>by
          obtain⟨x1,rfl⟩:=List.getElem?_eq_some_iff.1 q1;obtain⟨x2,rfl⟩:=List.getElem?_eq_some_iff.1 q2;exact SV.of (k1 i x1 x2)⟩
         have h2:nY G cs rc:=⟨hcl,fun i v r q1 q2=>by
          obtain⟨x1,rfl⟩:=List.getElem?_eq_some_iff.1 q1;obtain⟨x2,rfl⟩:=List.getElem?_eq_some_iff.1 q2;exact SV.of (k2 i x1 x2)⟩
         have happ:∀{u v:List IV}{x y:List Value},nY G u x→nY G v y→nY G (u++v) (x++y):=by
          intro u v x y p q;refine⟨by simp[p.1,q.1],fun i v r e5 e6=>?_⟩;rw[List.getElem?_append] at e5 e6;rw[p.1] at e6;split at e5
          ·rename_i q1;rw[if_pos q1] at e6;exact p.2 i v r e5 e6
          ·rename_i q1;rw[if_neg q1] at e6;exact q.2 _ v r e5 e6
         exact qd hop hq (oq h hc e1 (happ (happ h1 hs) h2)).1 fin
       ·rename_i id e4;have hgv:=SV.vr (h.rd hg e4) rfl;generalize hq:a.eval g=q at hgv
        cases hgv with
        |nT _ b hb=>exact yy hop hq (oq h hc e1 hs b hb) fin
       ·cases e1
      ·cases e1
     |_=>simp[IK.calls] at hn
   ·cases hr
  ·cases hr
 have hg:=hO.guard;replace hr:=dh.xK hr;unfold dh.fF gate at hr
 cases hgi:io.guard with
 |none =>
  rw[hgi] at hg hr
  cases hgo:o.guard with
  |some p=>rw[hgo] at hg;exact hg.elim
  |none =>
   have:Region.wanted o (yielded ops a.tmps)=true:=by simp[Region.wanted,hgo]
   rw[if_pos this];exact hrun hr
 |some p =>
  obtain⟨s,want⟩:=p;rw[hgi] at hg hr
  cases hgo:o.guard with
  |none=>rw[hgo] at hg;exact hg.elim
  |some q =>
   obtain⟨j,want'⟩:=q;rw[hgo] at hg;obtain⟨rfl,hj⟩:=hg;simp only at hr;have hyield:∀v c,look st.env s=some (v,c)→(v=.bool want'→yielded ops a.tmps j=some want')∧(v=.bool (!want')→yielded ops a.tmps j=some (!want'))∧((∃x,v=.db x)→yielded ops a.tmps j=none):=by
    intro v c e;obtain⟨q1,q2⟩:=h.env s v c e;have hsz:s<a.tmps.size:=by rw[h.size];exact q2
    have hgd:a.tmps[s]?=some (a.tmps.getD s undef):=by rw[Array.getD_eq_getD_getElem?,Array.getElem?_eq_getElem hsz];rfl
    have hy:yielded ops a.tmps j=match (a.tmps.getD s undef) with | .bool b=>some b | _=>none:=by
     unfold yielded;rw[hj];simp only[Option.bind_some,hgd]
     cases a.tmps.getD s undef<;>rfl
    refine⟨?_,?_,?_⟩
    ·rintro rfl;rw[hy,q1.kJ]
    ·rintro rfl;rw[hy,q1.kJ]
    ·rintro ⟨x,rfl⟩;have:=SV.vr q1 rfl;obtain⟨rc,e2,_⟩:=this.Bs;rw[hy,e2]
   have hw:∀b,Region.wanted o (yielded ops a.tmps)=b↔(yielded ops a.tmps j==some want')=b:=by intro b;simp[Region.wanted,hgo]
   have skip:st.put io.dst (.db []) .any=some st'→(∀f,o.about X.P w a.eval=some f→(Fr ro).fn f)∧K (a.put o.dst undef) w:=by intro hp;refine⟨fun _ _=>trivial,?_⟩;obtain⟨G2,k1,k2,_⟩:=zp (OR.same h (SV.of (VR.Dz c9.nil):SV G (.db []) undef)) hO.lt hp;rw[hO.dst];exact hK G2 _ w k1 k2 (by simp)
   cases hl:look st.env s with
   |none=>rw[hl] at hr;cases hr
   |some p =>
    obtain⟨v,c⟩:=p;obtain⟨y1,y2,y3⟩:=hyield v c hl;rw[hl] at hr
    cases v<;>first | (simp only at hr;cases hr;done) | skip
    ·rename_i b;by_cases hb:b=want'
     ·subst hb;have:=y1 rfl;rw[if_pos ((hw true).2 (by simp[this]))];simp only[beq_self_eq_true] at hr;exact hrun hr
     ·have hb':b=!want':=by cases b<;>cases want'<;>simp_all
      subst hb';have:=y2 rfl;have hf:¬Region.wanted o (yielded ops a.tmps)=true:=by rw[hw true,this];cases want'<;>simp
      rw[if_neg hf];have hbe:((!want')==want')=false:=by cases want'<;>rfl
      simp only[hbe] at hr;exact skip hr
    ·have:=y3 ⟨_,rfl⟩;have hf:¬Region.wanted o (yielded ops a.tmps)=true:=by rw[hw true,this];simp
     rw[if_neg hf];exact skip (by simpa using hr)
end Go.Idl
namespace Go.Idl
open Classical
variable {X:Ctx}{N:Nat}{G:Gh}{st:St}{a:Act}{w:World}
theorem yb.step {df:List Deferred}{st':St}{K:Act→World→Prop}{G1:Gh}{w1:World}(h:yb X N G w df st' K) (s:Step G w G1 w1):yb X N G1 w1 df st' K :=
 fun G' a' w' h1 h2 h3=>h G' a' w' h1 (s.trans h2) h3
theorem zk {call:bW}(hc:kV X call) {ro:Option Nat}{Q:Exit→Act→World→Prop}{ops:Array Oper}:∀(os:List Oper) (is:List dh) (k:Nat) (G:Gh) (st:St) (a:Act) (w:World) (st':St),
  uh X.P X.rows N ops os is→(∀j o,os[j]?=some o→ops[k+j]?=some o)→SR X N G st a w→bm call is st=some st'→yb X N G w a.defers st' (Q .normal) →
  wpOpsIn (Fr ro) 0 X.P ops Q (List.range' k os.length) a w
 |[],is,k,G,st,a,w,st',hO,hj,h,hr,hQ=>by
  cases hO
  simp only[bm,Option.some.injEq] at hr;subst hr;exact hQ G a w h (Step.refl _ _) rfl
 |o::os,is,k,G,st,a,w,st',hO,hj,h,hr,hQ=>by
  cases hO with
  |cons ho hs =>
   rename_i io is;simp only[bm] at hr;split at hr
   ·rename_i st1 e1;have hk:ops[k]?=some o:=by simpa using hj 0 o (by simp)
    simp only[List.length_cons,List.range'_succ,wpOpsIn,hk];refine CQ h hc ho e1 ?_;intro G1 a1 w1 h1 s1 d1;refine zk hc os is (k+1) G1 st1 a1 w1 st' hs (fun j o e=>?_) h1 hr ?_
    ·have:=hj (j+1) o (by simpa using e);rw[←this];congr 1;omega
    ·rw[d1];exact hQ.step s1
   ·cases hr
theorem Bi {call:bW}(hc:kV X call) {ro:Option Nat}{Q:Exit→Act→World→Prop}{id:Nat}{ops:Array Oper}{is:List dh}(hO:uh X.P X.rows N ops ops.toList is) (h:SR X N G st a w) {st':St}
  (hr:bm call is st=some st') (hQ:yb X N G w a.defers st' (Q .normal)):(Code.region id ops false).wpIn (Fr ro) 0 X.P Q a w:=by
 refine wpIn_region ?_;rw[List.range_eq_range',←Array.length_toList];exact zk hc ops.toList is 0 G st a w st' hO (fun j o e=>by simpa using e) h hr hQ
def Df (base:Nat) (G:Gh) (df:List Deferred) (w:World):Prop :=
 ∃rs:List Nat,df=rs.map (fun r=>{ target:=.collected r,args:=#[]})∧rs.Nodup∧∀r∈rs,base≤r∧w.heap[r]?=some (.deferred (some []))∧¬G.p8 r
theorem Df.step {base:Nat}{df:List Deferred}{G':Gh}{w':World}(h:Df base G df w) (s:Step G w G' w'):Df base G' df w':=by obtain⟨rs,h1,h2,h3⟩:=h;refine⟨rs,h1,h2,fun r hr=>?_⟩;obtain⟨k1,k2,k3⟩:=h3 r hr;exact⟨k1,s.other r _ k2 k3 (fun c t f e=>by cases e),fun q=>k3 (s.fh r (gw k2) q)⟩
def T5 (ro:Option Nat) (w:World):Prop:=∀l,ro=some l→∃L,w.heap[l]?=some (Obj.loop L)
theorem T5.step {ro:Option Nat}{G':Gh}{w':World}(h:T5 ro w) (s:Step G w G' w'):T5 ro w':=fun l e=>let ⟨L,hL⟩:=h l e;s.loop l L hL
def Rk:Ex→Exit
 |.normal=>.normal
 |.exit i=>.exit i
 |.ret=>.ret
structure At (X:Ctx) (N:Nat) (ro:Option Nat) (base:Nat) (G:Gh) (st:St) (a:Act) (w:World):Prop where
 sr:SR X N G st a w
 Vm:T5 ro w
 df:Df base G a.defers w
 le:base≤w.heap.size
def Hc (X:Ctx) (N:Nat) (ro:Option Nat) (base:Nat) (G:Gh) (w:World) (e:Ex) (st':St) (Q:Exit→Act→World→Prop):Prop :=
 ∀G' a' w',At X N ro base G' st' a' w'→Step G w G' w'→Q (Rk e) a' w'
theorem Hc.step {ro:Option Nat}{base:Nat}{e:Ex}{st':St}{Q:Exit→Act→World→Prop}{G1:Gh}{w1:World}(h:Hc X N ro base G w e st' Q) (s:Step G w G1 w1):Hc X N ro base G1 w1 e st' Q :=
 fun G' a' w' h1 h2=>h G' a' w' h1 (s.trans h2)
theorem At.Um {ro:Option Nat}{base:Nat}{st':St}{Q:Exit→Act→World→Prop}(h:At X N ro base G st a w) (hQ:Hc X N ro base G w .normal st' Q):yb X N G w a.defers st' (Q .normal) :=
 fun G' a' w' h1 h2 h3=>hQ G' a' w' ⟨h1,h.Vm.step h2,by rw[h3];exact h.df.step h2,Nat.le_trans h.le h2.size⟩ h2
def vv (X:Ctx):Prop:=∀(call:bW),kV X call→dK call→∀(N:Nat) (ro:Option Nat) (Q:Exit→Act→World→Prop) (id:Nat) (ops:Array Oper) (is:List dh) (pre:List Nat) (G:Gh) (st:St) (a:Act) (w:World) (st':St),
 uh X.P X.rows N ops ops.toList is→X.D ops is pre→SR X N G st a w→j8 st.lk=true→bm call is st=some st'→yb X N G w a.defers st' (Q .normal)→(Code.region id ops true).wpIn (Fr ro) 0 X.P Q a w
def vM (X:Ctx) (loop:kH):Prop:=∃m,∀hd b st e st',loop hd b st=some (e,st')→∀(c:Code) (N:Nat) (ro:Option Nat) (base:Nat) (Q:Exit→Act→World→Prop) (G:Gh) (a:Act) (w:World),
 CR X.P X.rows N X.T X.D c b→At X N ro base G st a w→Hc X N ro base G w e st' Q→Code.roundsIn (Fr ro) 0 X.P c Q m a w
theorem SR.act {a':Act}(h:SR X N G st a w) (e:a'.tmps=a.tmps):SR X N G st a' w where
 size:=by rw[e];exact h.size
 env:=by rw[e];exact h.env
 own:=by rw[e];exact h.own
 lk i l hm:=by
  have:=h.lk i l hm
  cases l<;>simp only[gz,e] at this ⊢<;>exact this
 lb:=h.lb
 dE:=h.dE
 dO:=h.dO
 mr:=h.mr
 wf:=h.wf
theorem SR.PV {lk:List (Nat×Loc)}(h:SR X N G st a w) (hs:∀p∈lk,p∈st.lk):SR X N G { st with lk } a w where
 size:=h.size
 env:=h.env
 own:=h.own
 lk i l hm:=h.lk i l (hs _ hm)
 lb:=h.lb
 dE:=h.dE
 dO:=h.dO
 mr:=h.mr
 wf:=h.wf
theorem SR.Uh (h:SR X N G st a w) {id:Nat}{b:Nat}{ro o:Obj}{m':IM}(hb:G.bx id=some b) (hr:w.heap[b]?=some ro) (hn:fX ro) (ho:fX o)
  (hm:st.m.put id .none=some m'):SR X N G { st with m:=m' } a (World.putObj w b o):=by
 obtain⟨hsz,_,hget⟩:=py hm;have hlt:=h.mr.kY id b hb;have hget':∀j,m'.get j=if id=j then .none else st.m.get j:=fun j=>by rw[hget];simp[hlt]
 refine { size:=h.size,env:=h.env,own:=h.own,lk:=fun i l hm=>(h.lk i l hm).putObj hr hn ho,lb:=?_,dE:=?_,dO:=h.dO,mr:=?_,wf:=h.wf.putObj hr hn ho }
 ·intro k' hn';obtain⟨b',ro',e1,e2,e3⟩:=h.lb k' hn';exact⟨b',ro',e1,by rw[cn (fun q=>by subst q;exact h.wf.fB _ _ _ hb e1)];exact e2,e3⟩
 ·intro k' cs cp off sz e1 e2 b' r e3 e4;rw[fu hr hn ho] at e4;exact h.dE k' cs cp off sz e1 e2 b' r e3 e4
 ·refine { bx:=?_,own:=?_,kY:=fun j b' e=>by rw[hsz];exact h.mr.kY j b' e,cd:=fun j e=>?_ }
  ·intro j hn';simp only[hget'] at hn' ⊢;split at hn'
   ·exact absurd rfl hn'
   ·rename_i q;rw[if_neg q];obtain⟨b',ro',e1,e2,e3⟩:=h.mr.bx j hn';exact⟨b',ro',e1,by rw[cn (fun e=>q (by subst e;exact h.wf.inj _ _ _ hb e1))];exact e2,e3⟩
  ·intro j cs cp off sz e1 e2 b' r e3 e4;simp only[hget'] at e1;rw[fu hr hn ho] at e4;split at e1
   ·cases e1
   ·exact h.mr.own j cs cp off sz e1 e2 b' r e3 e4
  ·obtain⟨q1,q2⟩:=h.mr.cd j e;refine⟨by rw[hsz];exact q1,?_⟩;rw[hget'];split
   ·rfl
   ·exact q2
end Go.Idl
namespace Go.Idl
open Classical
variable {X:Ctx}{N:Nat}{G:Gh}{st:St}{a:Act}{w:World}
theorem xu:∀(e:Env) (i:Nat) (v:IV) (c:cV),look (N0 e) i=some (v,c)→c=.any∧∃v0 c0,look e i=some (v0,c0)∧((v=v0∧v0.jO=false)∨v=.undef)
 |[],i,v,c,h=>by cases h
 |(j,u,d)::e,i,v,c,h=>by
  rw[N0,dZ] at h;rw[dZ];split at h
  ·rename_i q;rw[if_pos q];simp only[Option.some.injEq,Prod.mk.injEq] at h;obtain⟨h1,rfl⟩:=h;refine⟨rfl,u,d,rfl,?_⟩;split at h1
   ·rename_i k hk;exact .inl ⟨h1.symm,p9 hk⟩
   ·exact .inr h1.symm
  ·rename_i q;rw[if_neg q];exact xu e i v c h
theorem vW (h:SR X N G st a w) {c:Operand}{c':Arg}(hc:fg X.rows c c') {b:Bool}(e:c'.rd st.env=some (.bool b)):a.eval c=.bool b:=(h.rd hc e).kJ
theorem yr {P:Program}{fn:FuncId}{tmps:Array Value}{ps:Array Tmp}{as body:Code}{ro:Option Nat}(hro:T5 ro w) :
  ∃L:Loop,∃w0:World,∃mark:List Deferred,L.state=.ready∧L.pending=none∧L.tmps=tmps∧L.params=ps∧L.assign=as∧L.body=body ∧
   (Instr.enterLoop fn tmps ps as body ro).run P w=.ok (w0.heap.size,mark) (w0.alloc (.loop L)) ∧
   ((ro=none∧w0=w.alloc (.deferred (some []))∧mark=[{ target:=.collected w.heap.size,args:=#[]}])∨(w0=w∧mark=[])):=by
 cases ro with
 |none =>refine⟨{ state:=.ready,pending:=none,fn:=fn,tmps:=tmps,params:=ps,assign:=as,body:=body,defers:=w.heap.size },w.alloc (.deferred (some [])),_,rfl,rfl,rfl,rfl,rfl,rfl,?_,.inl ⟨rfl,rfl,rfl⟩⟩;simp[Instr.enterLoop,run_newObj]
 |some l =>obtain⟨L0,hL⟩:=hro l rfl;have hg:=fN (P:=P) hL trivial;refine⟨{ state:=.ready,pending:=none,fn:=fn,tmps:=tmps,params:=ps,assign:=as,body:=body,defers:=L0.defers },w,_,rfl,rfl,rfl,rfl,rfl,rfl,?_,.inr ⟨rfl,rfl⟩⟩;simp[Instr.enterLoop,Instr.getLoop,hg,run_newObj]
theorem jM {P:Program}{b:Frame}{k:List Item}{cs:List Frame}{c:Code}:step P (lone (b.atR a (.code (.scope c)::k)) cs w)=.next (lone (b.atR a (.code c :: .inScope c::k)) cs w) :=
 step_lone_go (by simp[stepG,stepG.exec,Frame.atR])
theorem yx {P:Program}{b:Frame}{k:List Item}{cs:List Frame}{c:Code}:step P (lone (b.atR a (.inScope c::k)) cs w)=.next (lone (b.atR a k) cs w) :=
 step_lone_go (by simp[stepG,stepG.exec,Frame.atR])
theorem Fb {F:Fence}{n:Nat}{P:Program}{Q:Exit→Act→World→Prop}{c:Code}(h:c.wpIn F n P (Exit.noGoto Q) a w):(Code.scope c).wpIn F n P Q a w:=by
 intro b k cs hro hb hr;have h0:(lone (b.atR a (.code (.scope c)::k)) cs w).fenced P F:=fenced_calm hb hr rfl;obtain⟨e,a₁,w₁,hq,harr⟩:=h b (.inScope c::k) cs hro hb hr
 cases e with
 |normal=>exact⟨.normal,a₁,w₁,hq,.head h0 jM (StepsIn.trans harr (.one (fenced_calm hb hr rfl) yx))⟩
 |exit id =>
  have hx:exitTo id (.inScope c::k)=exitTo id k:=by simp[exitTo]
  exact⟨.exit id,a₁,w₁,hq,fun k' hk=>.head h0 jM (harr.1 k' (by rw[hx];exact hk)),
   fun hr' hk=>let ⟨k₁,h1,h2⟩:=harr.2 hr' (by rw[hx];exact hk);⟨k₁,h1,.head h0 jM h2⟩⟩
 |goto l=>exact hq.elim
 |ret=>exact⟨_,a₁,w₁,hq,.of_steps (.one h0 jM) harr⟩
 |panic ch=>exact⟨_,a₁,w₁,hq,.of_steps (.one h0 jM) harr⟩
 |outgrown=>exact⟨_,a₁,w₁,hq,.of_steps (.one h0 jM) harr⟩
theorem J6 {f:FuncId}{fs cs:List IV}{r:Value}(h:SV G (.func f fs cs) r):∃rf rc,r=.func (.func f) ⟨rf⟩ ⟨rc⟩∧c9 G fs rf∧c9 G cs rc:=by
 cases SV.vr h rfl with
 |func _ _ _ rf rc hf hc h1 h2=>exact⟨rf,rc,rfl,⟨hf,h1⟩,⟨hc,h2⟩⟩
theorem lU (hD:vv X) {call:bW}(hc:kV X call) (hk:dK call) {loop:kH}(hl:vM X loop) {code:Code}{ic:aq}(hR:CR X.P X.rows N X.T X.D code ic) :
  ∀{ro:Option Nat}{base:Nat}{Q:Exit→Act→World→Prop}{G:Gh}{st:St}{a:Act}{w:World}{e:Ex}{st':St},At X N ro base G st a w→ic.run call loop st=some (e,st')→Hc X N ro base G w e st' Q→code.wpIn (Fr ro) 0 X.P Q a w:=by
 induction hR with
 |skip =>intro ro base Q G st a w e st' h hr hQ;simp only[aq.run,Option.some.injEq,Prod.mk.injEq] at hr;obtain⟨rfl,rfl⟩:=hr;exact wpIn_skip (hQ G a w h (Step.refl _ _))
 |label l =>intro ro base Q G st a w e st' h hr hQ;simp only[aq.run,Option.some.injEq,Prod.mk.injEq] at hr;obtain⟨rfl,rfl⟩:=hr;exact wpIn_label (hQ G a w h (Step.refl _ _))
 |ops id ops is hO =>
  intro ro base Q G st a w e st' h hr hQ;simp only[aq.run] at hr;split at hr
  ·rename_i st1 e1;simp only[Option.some.injEq,Prod.mk.injEq] at hr;obtain⟨rfl,rfl⟩:=hr;exact Bi hc hO h.sr e1 (h.Um hQ)
  ·cases hr
 |draw id ops is pre hO hd =>
  intro ro base Q G st a w e st' h hr hQ;simp only[aq.run] at hr;split at hr
  ·rename_i eu;split at hr
   ·rename_i st1 e1;simp only[Option.some.injEq,Prod.mk.injEq] at hr;obtain⟨rfl,rfl⟩:=hr;exact hD call hc hk _ ro Q id ops is pre G st a w _ hO hd h.sr eu e1 (h.Um hQ)
   ·cases hr
  ·cases hr
 |seq h1 h2 ih1 ih2 =>
  intro ro base Q G st a w e st' h hr hQ;simp only[aq.run] at hr;refine wpIn_seq ?_;split at hr
  ·rename_i st1 e1;refine ih1 h e1 ?_;intro G1 a1 w1 k1 s1;exact ih2 k1 hr (hQ.step s1)
  ·rename_i hn;refine ih1 h hr ?_;intro G1 a1 w1 k1 s1;have:=hQ G1 a1 w1 k1 s1
   cases e with
   |normal=>exact absurd hr (fun q=>hn st' q)
   |exit i=>exact this
   |ret=>exact this
 |cond hcd h1 h2 ih1 ih2 =>
  intro ro base Q G st a w e st' h hr hQ;simp only[aq.run] at hr;split at hr
  ·rename_i e1;exact wpIn_cond_true (vW h.sr hcd e1) (ih1 h hr hQ)
  ·rename_i e1;exact wpIn_cond_false (vW h.sr hcd e1) (ih2 h hr hQ)
  ·cases hr
 |block h1 ih1 =>
  rename_i id c x;intro ro base Q G st a w e st' h hr hQ;simp only[aq.run] at hr;refine wpIn_block ?_;split at hr
  ·rename_i i st1 e1;refine ih1 h e1 ?_;intro G1 a1 w1 k1 s1;split at hr
   ·rename_i hi;simp only[Option.some.injEq,Prod.mk.injEq] at hr;obtain⟨rfl,rfl⟩:=hr;simp only[Rk,Exit.inBlock,hi,if_true];exact hQ G1 a1 w1 k1 s1
   ·rename_i hi;simp only[Option.some.injEq,Prod.mk.injEq] at hr;obtain⟨rfl,rfl⟩:=hr;simp only[Rk,Exit.inBlock,hi,if_false];exact hQ G1 a1 w1 k1 s1
  ·rename_i hn;refine ih1 h hr ?_;intro G1 a1 w1 k1 s1;have:=hQ G1 a1 w1 k1 s1
   cases e with
   |normal=>exact this
   |exit i=>exact absurd hr (fun q=>hn i st' q)
   |ret=>exact this
 |loop h1 ih1 =>intro ro base Q G st a w e st' h hr hQ;obtain⟨m,hm⟩:=hl;exact wpIn_loop_rounds m (hm _ _ _ _ _ (by simpa only[aq.run] using hr) _ N ro base Q G a w h1 h hQ)
 |exit id =>intro ro base Q G st a w e st' h hr hQ;simp only[aq.run,Option.some.injEq,Prod.mk.injEq] at hr;obtain⟨rfl,rfl⟩:=hr;exact wpIn_exit (hQ G a w h (Step.refl _ _))
 |ret =>intro ro base Q G st a w e st' h hr hQ;simp only[aq.run,Option.some.injEq,Prod.mk.injEq] at hr;obtain⟨rfl,rfl⟩:=hr;exact wpIn_ret (hQ G a w h (Step.refl _ _))
 |scope h1 ih1 =>
  intro ro base Q G st a w e st' h hr hQ;refine Fb (ih1 h hr ?_);intro G1 a1 w1 k1 s1;have:=hQ G1 a1 w1 k1 s1
  cases e<;>exact this
 |kv hg hrn hp hlt h1 h2 ih1 ih2 =>
  rename_i g g' fn site ps as body r;intro ro base Q G st a w e st' h hr hQ;simp only[aq.run] at hr;split at hr
  ·rename_i f fs cs eg;split at hr
   ·rename_i rk m0 er ep;split at hr
    ·rename_i v m ecall;split at hr
     ·rename_i sb f2 s2 t2 j m2 eget eput;split at hr
      ·cases hr
      ·rename_i hsb;refine wpIn_rangeFunc ?_;intro fnid _;obtain⟨L,w0,mark,hL1,hL2,hL3,hL4,hL5,hL6,hrun,hw0⟩:=yr (P:=X.P) (fn:=fnid) (tmps:=a.tmps) (ps:=ps) (as:=as) (body:=body) h.Vm;have hw00:SR X N G st a w0∧Step G w G w0:=by
        rcases hw0 with ⟨_,rfl,_⟩ | ⟨rfl,_⟩
        ·exact⟨h.sr.grow (dV.alloc w _),Step.grow (dV.alloc w _)⟩
        ·exact⟨h.sr,Step.refl _ _⟩
       obtain⟨hs0,s0⟩:=hw00;have hsize:L.tmps.size=N:=by rw[hL3];exact h.sr.size
       have hor:eK X G (.loop 0 fn site (N0 st.env) 0) (.loop L):=by
        refine .loop 0 fn site (N0 st.env) 0 L r hrn (by rw[hL4];exact hp) (by rw[hsize];exact hlt) (by rw[hsize,hL5];exact h1) (by rw[hsize,hL6];exact h2) ?_ ?_ hL1 hL2
        ·intro i v c e;obtain⟨_,v0,c0,k1,k2⟩:=xu _ _ _ _ e;obtain⟨k3,k4⟩:=h.sr.env i v0 c0 k1;refine⟨?_,by rw[hsize];exact k4⟩;rcases k2 with ⟨rfl,k2⟩ | rfl
         ·rw[hL3];exact k3.vr k2
         ·exact VR.undef _
        ·intro i v c e;exact (xu _ _ _ _ e).1
       have hng:fK st (.loop 0 fn site (N0 st.env) 0) (.nT st.m.size)=some (.nT st.m.size,.any,{ st with m:=m0 }):=by simp[fK,ep]
       obtain⟨G1,hor1⟩:=mg (r:=.func (.yield w0.heap.size) #[] #[]) hs0 (dV.alloc w0 (.loop L)) hng hor (by simp) (fun _ _ _ _ q=>by cases q) (fun G' q=>VR.nT _ _ q);have hbx1:G1.bx st.m.size=some w0.heap.size:=by
        have q:=SV.vr hor1.sv rfl
        cases q with
        |nT _ b q=>exact q
       obtain⟨rf,rc,hgv,hrf,hrc⟩:=J6 (h.sr.rd hg eg);have up:∀{vs rs},c9 G vs rs→c9 (G1.callee [] (w0.alloc (.loop L)).heap.size) vs rs:=fun q=>c9.mono (G:=G) (G':=G1.callee [] _) hor1.step.dB hor1.step.bx q;have hy:VR (G1.callee [] (w0.alloc (.loop L)).heap.size) (.nT st.m.size) (.func (.yield w0.heap.size) #[] #[]):=VR.nT _ _ hbx1;have hargs:c9 (G1.callee [] (w0.alloc (.loop L)).heap.size) (fs++[.nT st.m.size]++cs) (rf++[.func (.yield w0.heap.size) #[] #[]]++rc):=((up hrf).append (c9.cons hy c9.nil)).append (up hrc);have hent:=(hc (.f f) _ m0 v m ecall (G1.callee [] (w0.alloc (.loop L)).heap.size) (w0.alloc (.loop L)) _ (hor1.sr.mr.callee (h:=[]) rfl (by simp)) (hor1.sr.wf.callee [] (Nat.le_refl _)) (fun _=>rfl) hargs).2 ⟨st.m.size,by simp⟩;have hcf:=hent.1;have hdf0:Df base G (mark++a.defers) w0:=by
        obtain⟨rs,q1,q2,q3⟩:=h.df;rcases hw0 with ⟨_,rfl,rfl⟩ | ⟨rfl,rfl⟩
        ·refine⟨w.heap.size::rs,by rw[q1];rfl,?_,?_⟩
         ·refine List.nodup_cons.2 ⟨fun q=>?_,q2⟩;have:=gw (q3 _ q).2.1;omega
         ·intro r hr';rcases List.mem_cons.1 hr' with rfl | hr'
          ·refine⟨h.le,(dV.alloc w _).new,fun q=>?_⟩;have:=h.sr.wf.eY _ q.boxed;omega
          ·obtain⟨k1,k2,k3⟩:=q3 r hr';exact⟨k1,(dV.alloc w _).heap k2,k3⟩
        ·exact⟨rs,by simpa using q1,q2,q3⟩
       refine⟨w0.heap.size,mark,_,{ target:=.fn (.func f) ⟨rc⟩,args:=⟨rf⟩ ++ #[.func (.yield w0.heap.size) #[] #[]]},w0.alloc (.loop L),f,⟨rf++[.func (.yield w0.heap.size) #[] #[]]++rc⟩,w0.alloc (.loop L),hrun,?_,fun _ _=>trivial,?_,(fun q=>by simp[Fr,Fence.wide] at q),?_⟩
       ·simp only[resolve,rangeCall,hgv,Deferred.ofValue,Sem.run_pure];congr 2;congr 1;simp[Act.eval]
       ·have:(⟨rf⟩ ++ #[.func (.yield w0.heap.size) #[] #[]]++⟨rc⟩:Array Value)=⟨rf++[.func (.yield w0.heap.size) #[] #[]]++rc⟩:=by apply Array.ext';simp
        simp only[invoke,this];exact hcf
       ·refine CallsIn.mono (F:=Fence.wide) hent.2 ?_;rintro ex w3 ⟨rv,rfl,G',k1,k2,k3,k4⟩;obtain⟨b1,b2⟩:=vV hor1.sr (hs:=[]) (by simp) rfl rfl k1 k2 k4;have hbx2:(G1.back [] G').bx st.m.size=some w0.heap.size:=b2.bx _ _ hbx1;obtain⟨b,ro3,c1,c2,c3⟩:=b1.mr.bx st.m.size (by simp[eget]);rw[hbx2] at c1;simp only[Option.some.injEq] at c1;subst c1;simp only[eget] at c3
        cases c3 with
        |loop _ _ _ _ _ L3 r3 d1 d2 d3 d4 d5 d6 d7 d8 d9 =>
         have hget:=fN (P:=X.P) c2 trivial;have hset:=iU (P:=X.P) (o:=.loop { L3 with state:=.exhausted }) c2 trivial;have hstate:(L3.state==LoopState.busy)=false:=by
          rw[d8]
          match sb,hsb with
          |0,_=>rfl
          |1,_=>rfl
          |n+2,q=>omega
         have hend:(Instr.endLoop w0.heap.size).run X.P w3=.ok (jmp j) (World.putObj w3 w0.heap.size (.loop { L3 with state:=.exhausted })):=by rw[←d9];simp only[Instr.endLoop,Instr.getLoop,Sem.run_bind,hget,Result.andThen_ok,Sem.run_pure,hstate,Bool.false_eq_true,if_false,hset]
         have hopn:(G1.back [] G').p8 w0.heap.size:=b1.mr.p8 (by simp[eget]) hbx2;have e1:=(b1.Uh (o:=.loop { L3 with state:=.exhausted }) hbx2 c2 trivial trivial eput).PV (lk:=[]) (by simp);have sAll:Step G w (G1.back [] G') (World.putObj w3 w0.heap.size (.loop { L3 with state:=.exhausted })) :=
          s0.trans (hor1.step.trans (b2.trans (Step.putObj c2 (fun L' _=>⟨_,rfl⟩) hopn)))
         have sAll0:Step G w0 (G1.back [] G') (World.putObj w3 w0.heap.size (.loop { L3 with state:=.exhausted })) :=
          hor1.step.trans (b2.trans (Step.putObj c2 (fun L' _=>⟨_,rfl⟩) hopn))
         have hat:At X N ro base (G1.back [] G') { st with m:=m2,lk:=[]} { a with defers:=mark++a.defers } (World.putObj w3 w0.heap.size (.loop { L3 with state:=.exhausted })) :=
          ⟨e1.act rfl,h.Vm.step sAll,hdf0.step sAll0,Nat.le_trans h.le sAll.size⟩
         refine⟨jmp j,_,hend,?_⟩
         match j,hr with
         |0,hr =>simp only[Option.some.injEq,Prod.mk.injEq] at hr;obtain⟨rfl,rfl⟩:=hr;exact hQ _ _ _ hat sAll
         |1,hr =>simp only[Option.some.injEq,Prod.mk.injEq] at hr;obtain⟨rfl,rfl⟩:=hr;exact wpIn_ret (hQ _ _ _ hat sAll)
         |i+2,hr =>simp only[Option.some.injEq,Prod.mk.injEq] at hr;obtain⟨rfl,rfl⟩:=hr;exact wpIn_exit (hQ _ _ _ hat sAll)
     ·cases hr
    ·cases hr
   ·cases hr
  ·cases hr
end Go.Idl
namespace Go.Idl
open Classical
variable {X:Ctx}{N:Nat}{G:Gh}{st:St}{a:Act}{w:World}
theorem wj:(G.callee [] G.gj).cd=G.cd:=by funext id;simp[Gh.callee]
theorem Step.callee:Step G w (G.callee [] G.gj) w where
 os:=rfl
 tape:=rfl
 output:=rfl
 size:=Nat.le_refl _
 dB _ _ _ h:=h
 bx _ _ h:=h
 other _ _ h _ _:=h
 cells _ c _ f h _:=⟨c,f,h,rfl,fun _ _=>rfl,.inl rfl⟩
 eW _ _ _ _ _ h:=.inl h
 fY _ _ _ _ h:=by rw[(i5 h).1];rfl
 fh _ _ h:=ko h
 cd:=wj
 gj:=rfl
 gm _ _ h:=.inl h
 loop _ L h:=⟨L,h⟩
noncomputable def Gh.cut (G:Gh) (w:World) (n:Nat):Gh where
 dB:=fun b o=>if ∃id,n≤id∧G.bx id=some b then w.cell? ⟨b,o,none⟩ else G.dB b o
 bx:=fun id=>if id<n then G.bx id else none
 lb:=fun _=>none
 ow:=(G.callee [] G.gj).ow
 cd:=G.cd
 gj:=G.gj
theorem pt (hw:WF X G w) {n b o:Nat}{v:Value}(h:G.dB b o=some v):(G.cut w n).dB b o=some v:=by
 simp only[Gh.cut];rw[if_neg]
 ·exact h
 ·rintro ⟨id,_,e⟩;rw[hw.ew b o (.inl ⟨id,e⟩)] at h;cases h
theorem VR.cut (hw:WF X G w) {n:Nat}{v:IV}{r:Value}(h:VR (G.upto n) v r):VR (G.cut w n) v r :=
 VR.mono (G:=G.upto n) (G':=G.cut w n) (fun b o v e=>pt hw e) (fun id b e=>e) h
theorem WF.cut (hw:WF X G w) (n:Nat):WF X (G.cut w n) w where
 dB b o v e:=by
  simp only[Gh.cut] at e;split at e
  ·exact e
  ·exact hw.dB b o v e
 inj i j b e1 e2:=by simp only[Gh.cut] at e1 e2;split at e1<;>split at e2<;>first | (cases e1;done) | (cases e2;done) | exact hw.inj i j b e1 e2
 ja i j b e:=by simp[Gh.cut] at e
 fB i k b _ e:=by simp[Gh.cut] at e
 eY b k:=by
  rcases k with ⟨id,e⟩ | ⟨k,e⟩
  ·simp only[Gh.cut] at e;split at e
   ·exact hw.eY b (.inl ⟨id,e⟩)
   ·cases e
  ·simp[Gh.cut] at e
 ew b o k:=by
  rcases k with ⟨id,e⟩ | ⟨k,e⟩
  ·simp only[Gh.cut] at e ⊢;split at e
   ·rename_i q;rw[if_neg]
    ·exact hw.ew b o (.inl ⟨id,e⟩)
    ·rintro ⟨id',q1,q2⟩;have:=hw.inj _ _ _ e q2;omega
   ·cases e
  ·simp[Gh.cut] at e
 eU b o k:=by
  rcases k with ⟨id,e⟩ | ⟨k,e⟩
  ·simp only[Gh.cut] at e;split at e
   ·exact fI (n:=G.gj) (hw.eU b o (.inl ⟨id,e⟩))
   ·cases e
  ·simp[Gh.cut] at e
 fL b o l e:=by
  have e2:=(i5 (n:=G.gj) e).1;simp only[Gh.cut];rw[if_neg]
  ·exact hw.fL b o l e2
  ·rintro ⟨id,_,q⟩;rw[hw.eU b o (.inl ⟨id,q⟩)] at e2;cases e2
 dR b o l e:=hw.dR b o l (i5 (n:=G.gj) e).1
 gj:=hw.gj
 iD g row hr:=by have h1:=(hw.iD g row hr).E7 rfl;have h2:VR (G.cut w n).pl (.pI row 0) (.pointer (some ⟨g,0,none⟩)):=VR.mono (G:=G.pl) (G':=(G.cut w n).pl) (fun b o v e=>pt hw e) (fun _ _ e=>e) h1;exact h2.EJ
theorem Step.cut {G0:Gh}{w0:World}(s:Step G0 w0 G w) (hw:WF X G w) {n:Nat}(hd:∀id b,G0.bx id=some b→id<n):Step G0 w0 (G.cut w n) w where
 os:=s.os
 tape:=s.tape
 output:=s.output
 size:=s.size
 dB b o v e:=pt hw (s.dB b o v e)
 bx id b e:=by simp only[Gh.cut,hd id b e,if_true];exact s.bx id b e
 other:=s.other
 cells:=s.cells
 eW b o v hb nb e:=by
  simp only[Gh.cut] at e;split at e
  ·rename_i q;obtain⟨id,q1,q2⟩:=q;rcases s.gm id b q2 with q3 | q3
   ·have:=hd id b q3;omega
   ·omega
  ·exact s.eW b o v hb nb e
 fY b o l hb e:=s.fY b o l hb (i5 (n:=G.gj) e).1
 fh b hb q:=by
  rcases q with ⟨id,e1,e2⟩ | ⟨k,e⟩
  ·simp only[Gh.cut] at e1;split at e1
   ·exact s.fh b hb (.inl ⟨id,e1,e2⟩)
   ·cases e1
  ·simp[Gh.cut] at e
 cd:=s.cd
 gj:=s.gj
 gm id b e:=by
  simp only[Gh.cut] at e;split at e
  ·exact s.gm id b e
  ·cases e
 loop:=s.loop
theorem MR.cut {m:IM}(h:MR X G m w) (hw:WF X G w) {n:Nat}(hn:n≤m.size) (hc:Tu n m) (hh:∀id,G.cd id=true→id<n):MR X (G.cut w n) { m with bs:=m.bs.take n } w:=by
 have hsz:IM.size { m with bs:=m.bs.take n }=n:=by simp only[IM.size] at hn ⊢;simp;omega
 have hget:∀j,IM.get { m with bs:=m.bs.take n } j=if j<n then m.get j else .none:=by
  intro j;split
  ·rename_i q;exact Du q
  ·rename_i q;simp only[IM.get,List.getD_eq_getElem?_getD];rw[List.getElem?_eq_none (by simp;omega)];rfl
 refine { bx:=?_,own:=?_,kY:=?_,cd:=?_ }
 ·intro id hne;rw[hget] at hne ⊢;split at hne
  ·rename_i q;rw[if_pos q];obtain⟨b,ro,e1,e2,e3⟩:=h.bx id hne;refine⟨b,ro,by simp only[Gh.cut,q,if_true];exact e1,e2,?_⟩;exact eK.mono (G:=G.upto n) (G':=G.cut w n) (fun b o v e=>pt hw e) (fun _ _ e=>e) (e3.upto (hc id q))
  ·exact absurd rfl hne
 ·intro id cs cp off sz e1 e2 b r e3 e4;rw[hget] at e1;split at e1
  ·rename_i q;simp only[Gh.cut,q,if_true] at e3;have ho:=h.own id cs cp off sz e1 e2 b r e3 e4;intro b' o sp len cap e5;obtain⟨k1,k2⟩:=ho b' o sp len cap e5;refine⟨k1,fun j hj1 hj2=>?_⟩;simp[Gh.cut,Gh.callee,Gh.O1,k2 j hj1 hj2]
  ·cases e1
 ·intro id b e;rw[hsz];simp only[Gh.cut] at e;split at e
  ·assumption
  ·cases e
 ·intro id e;have:=hh id e;rw[hsz,hget,if_pos this];exact⟨this,(h.cd id e).2⟩
noncomputable def Gh.fz (G:Gh) (w:World) (n:Nat):Gh:={ G with dB:=(G.cut w n).dB }
theorem VR.fz (hw:WF X G w) {n:Nat}{v:IV}{r:Value}(h:VR G v r):VR (G.fz w n) v r:=VR.mono (G:=G) (G':=G.fz w n) (fun b o v e=>pt hw e) (fun _ _ e=>e) h
theorem Ek {m:IM}(hm:MR X G m w) (hw:WF X G w) {n:Nat}{v:IV}{r:Value}(h:VR G v r):VR (G.fz w n) (ND n m v) r:=by
 unfold ND;split
 ·rename_i id off len sz;split
  ·exact h.fz hw
  ·rename_i cd;split
   ·rename_i cs cp e1;split
    ·rename_i row e2;split
     ·rename_i hpl
      cases h with
      |sB _ _ _ _ b cap hb hle =>
       obtain⟨b',ro,k1,k2,k3⟩:=hm.bx id (by rw[e1];simp);rw[hb] at k1;simp only[Option.some.injEq] at k1;subst k1;rw[e1] at k3
       cases k3 with
       |cells _ _ rc t f g1 g2 g3 =>
        unfold cut at e2;split at e2
        ·rename_i hlen;simp only[Option.some.injEq] at e2;subst e2;have hrl:((cs.drop off).take (len*sz)).length=len*sz:=by simp;omega
         refine VR.sl _ len b off cap (fun i=>rc.getD (off+i) undef) ?_ ?_ hle
         ·intro i hi;rw[hrl] at hi;have hlt:off+i<rc.length:=by rw[g1.1];omega
          simp only[Gh.fz,Gh.cut];rw[if_pos ⟨id,by omega,hb⟩,cC k2,List.getElem?_eq_getElem hlt,List.getD_eq_getElem?_getD,List.getElem?_eq_getElem hlt];rfl
         ·intro i hi;have hi':i<len*sz:=by rw[hrl] at hi;exact hi
          have hlt:off+i<rc.length:=by rw[g1.1];omega
          rw[List.getD_eq_getElem?_getD,List.getElem?_eq_getElem hlt];have hv:=g1.2 (off+i) (by omega) hlt;have hmem:=List.all_eq_true.1 hpl _ (List.getElem_mem hi);simp only[List.getElem_take,List.getElem_drop] at hmem ⊢;exact VR.mono (G:=G.pl) (G':=(G.fz w n).pl) (fun b o v e=>pt hw e) (fun _ _ e=>e) (hv.E7 hmem)
        ·cases e2
     ·exact h.fz hw
    ·exact h.fz hw
   ·exact h.fz hw
 ·exact h.fz hw
theorem F3 {m:IM}(hm:MR X G m w) (hw:WF X G w) {n:Nat}{vs:List IV}{rs:List Value}(h:c9 G vs rs):c9 (G.fz w n) (vs.map (ND n m)) rs :=
 ⟨by simp[h.1],fun i hi hi'=>by simp only[List.getElem_map];exact Ek hm hw (h.2 i (by simpa using hi) hi')⟩
theorem NF {m:IM}(hm:MR X G m w) (hw:WF X G w) {n:Nat}{v:IV}{r:Value}(h:VR G v r):VR (G.fz w n) (Ej n m v) r:=by
 unfold Ej;split
 ·obtain⟨rc,rfl,k⟩:=h.lA;exact VR.B1 (F3 hm hw k)
 ·obtain⟨rc,rfl,k⟩:=h.Bs;refine VR.Dz ⟨by simp[k.1],fun i hi hi'=>?_⟩;simp only[List.getElem_map];have hv:=k.2 i (by simpa using hi) hi';split
  ·rename_i cs q;rw[q] at hv;obtain⟨rc',e,k'⟩:=hv.lA;rw[e];exact VR.B1 (F3 hm hw k')
  ·exact Ek hm hw hv
 ·exact Ek hm hw h
theorem r5 {G0:Gh}{w0:World}{m0:IM}(hm0:MR X G0 m0 w0) (s:Step G0 w0 G w) {m:IM}(hm:MR X G m w) (hw:WF X G w) (hk:fD m0 m) {v v':IV}{m':IM}(hs:settle m0 m v=some (v',m')) {r:Value}(hv:VR G v r) :
  mV X G0 w0 m' v' r w:=by
 have hcl0:Tu m0.size m0:=by
  intro id cd
  cases hg:m0.get id with
  |none=>trivial
  |iter s p=>trivial
  |cells cs cp =>
   obtain⟨b,ro,k1,k2,k3⟩:=hm0.bx id (by rw[hg];simp);rw[hg] at k3
   cases k3 with
   |cells _ _ rc t f g1 g2 g3 =>intro u hu;obtain⟨i,hi,rfl⟩:=List.getElem_of_mem hu;exact (g1.2 i hi (by rw[g1.1];exact hi)).lo hm0.kY
  |map es =>
   obtain⟨b,ro,k1,k2,k3⟩:=hm0.bx id (by rw[hg];simp);rw[hg] at k3
   cases k3 with
   |map _ res clock g1 g2 =>
    intro p hp;obtain⟨i,hi,rfl⟩:=List.getElem_of_mem hp;have q1:=g1.1;have q2:=g2.1;simp only[List.length_map] at q1 q2;refine⟨?_,?_⟩
    ·have:=g1.2 i (by simpa using hi) (by simp;omega);simp only[List.getElem_map] at this;exact this.lo hm0.kY
    ·have:=g2.2 i (by simpa using hi) (by simp;omega);simp only[List.getElem_map] at this;exact this.lo hm0.kY
  |loop busy fn site tm j =>
   obtain⟨b,ro,k1,k2,k3⟩:=hm0.bx id (by rw[hg];simp);rw[hg] at k3
   cases k3 with
   |loop _ _ _ _ _ L r hr hp hlt h1 h2 he hc hs hj=>exact fun i v c e=>(he i v c e).1.lo hm0.kY
 unfold settle at hs;simp only[aK] at hs;split at hs
 ·rename_i k bs ek eb
  cases eb
  have whole:some (v,m)=some (v',m')→mV X G0 w0 m' v' r w:=by intro e;simp only[Option.some.injEq,Prod.mk.injEq] at e;obtain⟨rfl,rfl⟩:=e;exact⟨G.callee [] G.gj,hm.callee rfl (by simp),hw.callee [] hw.gj,hv.callee,s.trans Step.callee⟩
  split at hs
  ·rename_i hesc;have hcut:∀u,VR (G.cut w m0.size) u r→some (u,{ m with bs:=m.bs.take m0.size })=some (v',m')→mV X G0 w0 m' v' r w:=by intro u hu e;simp only[Option.some.injEq,Prod.mk.injEq] at e;obtain⟨rfl,rfl⟩:=e;exact⟨G.cut w m0.size,hm.cut hw hk.size (hk.cl hesc _ (Nat.le_refl _) hcl0) (fun id e=>(hm0.cd id (by rw[←s.cd];exact e)).1),hw.cut _,hu,s.cut hw hm0.kY⟩
   split at hs
   ·rename_i hle;exact hcut v (VR.cut hw (hv.upto (t8 ek hle))) hs
   ·split at hs
    ·rename_i k2 ek2;split at hs
     ·rename_i hle;have h1:=(NF (n:=m0.size) hm hw hv).upto (t8 ek2 hle);exact hcut _ (VR.mono (G:=(G.fz w m0.size).upto m0.size) (G':=G.cut w m0.size) (fun _ _ _ e=>e) (fun _ _ e=>e) h1) hs
     ·exact whole hs
    ·cases hs
  ·exact whole hs
 ·cases hs
end Go.Idl
