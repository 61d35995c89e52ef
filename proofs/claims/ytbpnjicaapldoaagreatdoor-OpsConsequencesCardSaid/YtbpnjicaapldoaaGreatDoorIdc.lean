/- This text proves that runs of that interpreter keep apart what they must, and that code that calls and loops is sound; it has no conditions. -/
import Derived.Test.YtbpnjicaapldoaaGreatDoorIdb
import Derived.Scope
set_option linter.unusedSimpArgs false
set_option linter.unusedVariables false
namespace Go.Idl
open Classical
variable {X:Ctx}{N:Nat}{G:Gh}{st:St}{a:Act}{w:World}
inductive Lo (n:Nat):IV→Prop
 |flat (v:IV) (h:∀id,(∀o,v ≠ .pB id o)∧(∀o l s,v ≠ .sB id o l s)∧v ≠ .map id∧v ≠ .yld id) (h1:∀f a b,v ≠ .func f a b) (h2:∀t u,v ≠ .iface t u) (h3:∀c,v ≠ .agg c) (h4:∀c,v ≠ .tup c):Lo n v
 |pB (id o) (h:id<n):Lo n (.pB id o)
 |sB (id o l s) (h:id<n):Lo n (.sB id o l s)
 |map (id) (h:id<n):Lo n (.map id)
 |yld (id) (h:id<n):Lo n (.yld id)
 |func (f a b) (ha:∀v∈a,Lo n v) (hb:∀v∈b,Lo n v):Lo n (.func f a b)
 |iface (t v) (h:Lo n v):Lo n (.iface t v)
 |agg (c) (h:∀v∈c,Lo n v):Lo n (.agg c)
 |tup (c) (h:∀v∈c,Lo n v):Lo n (.tup c)
theorem Lo.mono {n m:Nat}(hnm:n≤m) {v:IV}(h:Lo n v):Lo m v:=by
 induction h with
 |flat v h h1 h2 h3 h4=>exact .flat v h h1 h2 h3 h4
 |pB id o h=>exact .pB id o (by omega)
 |sB id o l s h=>exact .sB id o l s (by omega)
 |map id h=>exact .map id (by omega)
 |yld id h=>exact .yld id (by omega)
 |func f a b _ _ iha ihb=>exact .func f a b iha ihb
 |iface t v _ ih=>exact .iface t v ih
 |agg c _ ih=>exact .agg c ih
 |tup c _ ih=>exact .tup c ih
theorem Lo.plain {n:Nat}{v:IV}(h:v.plain=true):Lo n v:=by
 cases v with
 |func f a b =>
  cases a with
  |cons _ _=>simp[IV.plain] at h
  |nil=>cases b with
   |cons c r =>
    have hall:capPI (c::r)=true:=by
     cases c<;>first | (simp[IV.plain] at h;done) | exact h
    have key:∀(l:List IV),capPI l=true→∀v,v∈l→Lo n v:=by
     intro l
     induction l with
     |nil=>intro _ v hv;cases hv
     |cons a l ih =>
      intro hl v hv
      cases a<;>first | (simp[capPI] at hl;done) | skip
      rcases List.mem_cons.1 hv with rfl | hv
      ·exact .flat _ (by simp) (by simp) (by simp) (by simp) (by simp)
      ·exact ih (by simpa[capPI] using hl) v hv
    exact .func f [] (c::r) (by simp) (key _ hall)
   |nil=>exact .func f [] [] (by simp) (by simp)
 |_=>first | (simp[IV.plain] at h;done) | exact .flat _ (by simp) (by simp) (by simp) (by simp) (by simp)
def Gh.upto (G:Gh) (n:Nat):Gh:={ G with bx:=fun id=>if id<n then G.bx id else none }
theorem VR.lo {v:IV}{r:Value}(h:VR G v r) {n:Nat}(hn:∀id b,G.bx id=some b→id<n):Lo n v:=by
 induction h with
 |pB id off b h=>exact .pB id off (hn _ _ h)
 |sB id off len sz b cap h h3=>exact .sB id off len sz (hn _ _ h)
 |map id b h=>exact .map id (hn _ _ h)
 |yld id b h=>exact .yld id (hn _ _ h)
 |func f fs cs rf rc hf hc _ _ ih1 ih2 =>
  refine .func f fs cs (fun v hv=>?_) (fun v hv=>?_)
  ·obtain⟨i,hi,rfl⟩:=List.getElem_of_mem hv;exact ih1 i hi (by omega) hn
  ·obtain⟨i,hi,rfl⟩:=List.getElem_of_mem hv;exact ih2 i hi (by omega) hn
 |iface t v rv _ ih=>exact .iface t v (ih hn)
 |agg cs rc hl _ ih =>
  refine .agg cs (fun v hv=>?_)
  obtain⟨i,hi,rfl⟩:=List.getElem_of_mem hv;exact ih i hi (by omega) hn
 |tup cs rc hl _ ih =>
  refine .tup cs (fun v hv=>?_)
  obtain⟨i,hi,rfl⟩:=List.getElem_of_mem hv;exact ih i hi (by omega) hn
 |_=>exact .flat _ (by simp) (by simp) (by simp) (by simp) (by simp)
theorem VR.upto {v:IV}{r:Value}(h:VR G v r) {n:Nat}(hl:Lo n v):VR (G.upto n) v r:=by
 induction h with
 |undef v=>exact .undef v
 |bool b=>exact .bool b
 |int k n=>exact .int k n
 |float k n=>exact .float k n
 |cplx k a b=>exact .cplx k a b
 |str s=>exact .str s
 |nilPtr=>exact .nilPtr
 | @pI G row off b o g h1 h2 ih=>exact .pI row off b o g h1 h2
 | @pB G id off b h =>
  cases hl with
  |flat _ h'=>exact absurd rfl ((h' id).1 off)
  |pB _ _ hid=>exact .pB id off b (by simp[Gh.upto,hid,h])
 |nilSlice=>exact .nilSlice
 | @sl G row len b o cap g h1 h2 h3 ih=>exact .sl row len b o cap g h1 h2 h3
 |sl0 a=>exact .sl0 a
 | @sB G id off len sz b cap h h3 =>
  cases hl with
  |flat _ h'=>exact absurd rfl ((h' id).2.1 off len sz)
  |sB _ _ _ _ hid=>exact .sB id off len sz b cap (by simp[Gh.upto,hid,h]) h3
 |nilMap=>exact .nilMap
 | @map G id b h =>
  cases hl with
  |flat _ h'=>exact absurd rfl (h' id).2.2.1
  |map _ hid=>exact .map id b (by simp[Gh.upto,hid,h])
 |nilFunc=>exact .nilFunc
 | @func G f fs cs rf rc hf hc h1 h2 ih1 ih2 =>
  cases hl with
  |flat _ _ h'=>exact absurd rfl (h' f fs cs)
  |func _ _ _ ha hb=>exact .func f fs cs rf rc hf hc (fun i h h'=>ih1 i h h' (ha _ (List.getElem_mem h))) (fun i h h'=>ih2 i h h' (hb _ (List.getElem_mem h)))
 | @yld G id b h =>
  cases hl with
  |flat _ h'=>exact absurd rfl (h' id).2.2.2
  |yld _ hid=>exact .yld id b (by simp[Gh.upto,hid,h])
 |nilIface=>exact .nilIface
 | @iface G t v rv h ih =>
  cases hl with
  |flat _ _ _ h'=>exact absurd rfl (h' t v)
  |iface _ _ h=>exact .iface t v rv (ih h)
 | @agg G cs rc hlen h ih =>
  cases hl with
  |flat _ _ _ _ h'=>exact absurd rfl (h' cs)
  |agg _ h=>exact .agg cs rc hlen (fun i hi hi'=>ih i hi hi' (h _ (List.getElem_mem hi)))
 | @tup G cs rc hlen h ih =>
  cases hl with
  |flat _ _ _ _ _ h'=>exact absurd rfl (h' cs)
  |tup _ h=>exact .tup cs rc hlen (fun i hi hi'=>ih i hi hi' (h _ (List.getElem_mem hi)))
theorem refs_go {n:Nat}:∀(vs:List IV) (k:Nat),IV.refs.go vs=some k→k≤n→∀v∈vs,Lo n v
 |[],k,_,_=>by simp
 |v::vs,k,h,hk=>by
  intro u hu
  have key:∀(j:Nat) (o:Option Nat),o.map (Nat.max (j+1))=some k→j<n∧∃k',o=some k'∧k'≤n:=by
   intro j o e
   obtain⟨k',rfl,e2⟩:=Option.map_eq_some_iff.1 e
   have:j+1≤k:=by rw[←e2];exact Nat.le_max_left _ _
   have:k'≤k:=by rw[←e2];exact Nat.le_max_right _ _
   exact⟨by omega,k',rfl,by omega⟩
  have pl:(if v.plain=true then IV.refs.go vs else none)=some k→Lo n v∧IV.refs.go vs=some k:=by
   intro e
   split at e
   ·rename_i q;exact⟨Lo.plain q,e⟩
   ·cases e
  have:Lo n v∧∃k',IV.refs.go vs=some k'∧k'≤n:=by
   cases v with
   |pB id o=>obtain⟨q1,q2⟩:=key id _ (by simpa[IV.refs.go] using h);exact⟨.pB id o q1,q2⟩
   |sB id o l s=>obtain⟨q1,q2⟩:=key id _ (by simpa[IV.refs.go] using h);exact⟨.sB id o l s q1,q2⟩
   |map id=>obtain⟨q1,q2⟩:=key id _ (by simpa[IV.refs.go] using h);exact⟨.map id q1,q2⟩
   |yld id=>obtain⟨q1,q2⟩:=key id _ (by simpa[IV.refs.go] using h);exact⟨.yld id q1,q2⟩
   |_=>obtain⟨q1,q2⟩:=pl (by simpa[IV.refs.go] using h);exact⟨q1,k,q2,hk⟩
  rcases List.mem_cons.1 hu with rfl | hu
  ·exact this.1
  ·obtain⟨k',h1,h2⟩:=this.2
   exact refs_go vs k' h1 h2 u hu
theorem refs_lo {v:IV}{k n:Nat}(h:v.refs=some k) (hk:k≤n):Lo n v:=by
 have pl:(if v.plain=true then some 0 else none)=some k→Lo n v:=by
  intro e
  split at e
  ·rename_i q;exact Lo.plain q
  ·cases e
 cases v with
 |pB id o=>simp only[IV.refs,Option.some.injEq] at h;exact .pB id o (by omega)
 |sB id o l s=>simp only[IV.refs,Option.some.injEq] at h;exact .sB id o l s (by omega)
 |map id=>simp only[IV.refs,Option.some.injEq] at h;exact .map id (by omega)
 |yld id=>simp only[IV.refs,Option.some.injEq] at h;exact .yld id (by omega)
 |func f a b =>
  simp only[IV.refs] at h
  have:=refs_go _ k h hk
  exact .func f a b (fun v hv=>this v (List.mem_append_left _ hv)) (fun v hv=>this v (List.mem_append_right _ hv))
 |_=>exact pl (by simpa[IV.refs] using h)
theorem refsAll_lo {vs:List IV}{k n:Nat}(h:refsAll vs=some k) (hk:k≤n):∀v∈vs,Lo n v:=by
 intro v hv
 obtain⟨j,h1,h2⟩:=refsAll_mem h v hv
 exact refs_lo h1 (by omega)
theorem refsDeep_go {n:Nat}:∀(vs:List IV) (k:Nat),IV.refsDeep.go vs=some k→k≤n→∀v∈vs,Lo n v
 |[],k,_,_=>by simp
 |v::vs,k,h,hk=>by
  intro u hu
  simp only[IV.refsDeep.go] at h
  split at h
  ·rename_i x y e1 e2
   simp only[Option.some.injEq] at h
   have hx:x≤k:=by rw[←h];exact Nat.le_max_left _ _
   have hy:y≤k:=by rw[←h];exact Nat.le_max_right _ _
   rcases List.mem_cons.1 hu with rfl | hu
   ·cases u with
    |agg cs=>exact .agg cs (refsAll_lo e1 (by omega))
    |_=>exact refs_lo e1 (by omega)
   ·exact refsDeep_go vs y e2 (by omega) u hu
  ·cases h
theorem refsDeep_lo {v:IV}{k n:Nat}(h:v.refsDeep=some k) (hk:k≤n):Lo n v:=by
 cases v with
 |agg cs=>exact .agg cs (refsAll_lo h hk)
 |tup vs=>exact .tup vs (refsDeep_go vs k h hk)
 |_=>exact refs_lo h hk
theorem refsDeep_notL {v:IV}{k:Nat}(h:v.refsDeep=some k):v.isL=false:=by
 cases v<;>first | rfl | (simp[IV.refsDeep,IV.refs,IV.plain] at h)
def LoB (n:Nat):BObj→Prop
 |.cells cs _=>∀v∈cs,Lo n v
 |.map es=>∀p∈es,Lo n p.1∧Lo n p.2
 |.loop _ _ _ tm _=>∀i v c,look tm i=some (v,c)→Lo n v
 |_=>True
def ClI (n:Nat) (m:IM):Prop:=∀id,id<n→LoB n (m.get id)
structure Keep (m m':IM):Prop where
 esc:m.esc≤m'.esc
 size:m.size≤m'.size
 cl:m'.esc=m.esc→∀n,n≤m.size→ClI n m→ClI n m'
theorem Keep.refl (m:IM):Keep m m:=⟨Nat.le_refl _,Nat.le_refl _,fun _ _ _ h=>h⟩
theorem Keep.trans {m m1 m2:IM}(h:Keep m m1) (k:Keep m1 m2):Keep m m2 :=
 ⟨Nat.le_trans h.esc k.esc,Nat.le_trans h.size k.size,fun e n hn hc =>
  k.cl (by have:=h.esc;have:=k.esc;omega) n (Nat.le_trans hn h.size) (h.cl (by have:=h.esc;have:=k.esc;omega) n hn hc)⟩
theorem VRs.upto {vs:List IV}{rs:List Value}(h:VRs G vs rs) {n:Nat}(hl:∀v∈vs,Lo n v):VRs (G.upto n) vs rs :=
 ⟨h.1,fun i hi hi'=>(h.2 i hi hi').upto (hl _ (List.getElem_mem hi))⟩
theorem ORel.upto {o:BObj}{ro:Obj}(h:ORel X G o ro) {n:Nat}(hl:LoB n o):ORel X (G.upto n) o ro:=by
 cases h with
 |cells cs cp rc t f h hf hcp=>exact .cells cs cp rc t f (h.upto hl) hf hcp
 |iter s p=>exact .iter s p
 |map es res c hk hv =>
  refine .map es res c (hk.upto fun v hv=>?_) (hv.upto fun v hv=>?_)
  ·obtain⟨p,hp,rfl⟩:=List.mem_map.1 hv;exact (hl p hp).1
  ·obtain⟨p,hp,rfl⟩:=List.mem_map.1 hv;exact (hl p hp).2
 |loop busy fn site env j L r hr hp hlt h1 h2 he hc hs hj =>
  refine .loop busy fn site env j L r hr hp hlt h1 h2 (fun i v c e=>⟨(he i v c e).1.upto ?_,(he i v c e).2⟩) hc hs hj
  exact hl i v c e
end Go.Idl
namespace Go.Idl
def CallKeeps (call:CallT):Prop:=∀c args m v m',call c args m=some (v,m')→Keep m m'
theorem Keep.of_put {m m':IM}{id:Nat}{x:BObj}(h:m.put id x=some m') (hx:∀n,id<n→LoB n (m.get id)→LoB n x):Keep m m':=by
 obtain⟨h1,h2,h3⟩:=get_put h
 refine⟨by omega,by omega,fun _ n hn hc j hj=>?_⟩
 rw[h3]
 split
 ·rename_i q
  obtain⟨rfl,_⟩:=q
  exact hx n hj (hc _ hj)
 ·exact hc j hj
theorem get_push {m m':IM}{x:BObj}(h:m.push x=some m'):m'.size=m.size+1∧m'.esc=m.esc∧∀j,m'.get j=if j=m.size then x else m.get j:=by
 simp only[IM.push,frc_eq,Option.some.injEq] at h
 subst h
 refine⟨by simp[IM.size],rfl,fun j=>?_⟩
 simp only[IM.get,IM.size,List.getD_eq_getElem?_getD]
 split
 ·rename_i q;subst q;simp
 ·rename_i q
  rcases Nat.lt_or_ge j m.bs.length with q2 | q2
  ·rw[List.getElem?_append_left q2]
  ·rw[List.getElem?_eq_none (by simp;omega),List.getElem?_eq_none q2]
theorem Keep.of_push {m m':IM}{x:BObj}(h:m.push x=some m'):Keep m m':=by
 obtain⟨h1,h2,h3⟩:=get_push h
 refine⟨by omega,by omega,fun _ n hn hc j hj=>?_⟩
 rw[h3,if_neg (by omega)]
 exact hc j hj
theorem over_mem {cs vs:List IV}{off:Nat}{v:IV}(h:v∈over cs off vs):v∈cs∨v∈vs:=by
 simp only[over,List.mem_append] at h
 rcases h with (h | h) | h
 ·exact .inl (List.mem_of_mem_take h)
 ·exact .inr h
 ·exact .inl (List.mem_of_mem_drop h)
theorem storeI_keep {st st':St}{n:Nat}{p:IV}{vs:List IV}{c:Cap}(h:storeI st n p vs c=some st'):Keep st.m st'.m:=by
 unfold storeI at h
 split at h
 ·cases h
 ·split at h
  ·split at h
   ·split at h
    ·simp only[frc_eq,Option.some.injEq] at h;subst h;exact Keep.refl _
    ·cases h
   ·cases h
  ·rename_i id off
   split at h
   ·rename_i cs cp r e1 e2
    split at h
    ·simp only[frc_eq] at h
     split at h
     ·rename_i m' hm
      simp only[Option.some.injEq] at h
      subst h
      obtain⟨h1,h2,h3⟩:=get_put hm
      refine⟨?_,?_,fun he k hk hc j hj=>?_⟩
      ·simp only;split<;>omega
      ·show st.m.size≤m'.size;omega
      ·show LoB k (m'.get j)
       rw[h3]
       split
       ·rename_i q
        obtain⟨rfl,_⟩:=q
        have hr:r≤id:=by
         simp only at he
         split at he
         ·assumption
         ·omega
        have hold:=hc id hj
        rw[e1] at hold
        intro v hv
        rcases over_mem hv with hv | hv
        ·exact hold v hv
        ·exact refsAll_lo e2 (by omega) v hv
       ·exact hc j hj
     ·cases h
    ·cases h
   ·cases h
  ·cases h
theorem drop_keep {st st':St}{l:Loc}(h:st.drop l=some st'):Keep st.m st'.m:=by
 unfold St.drop at h
 split at h
 ·split at h<;>(simp only[Option.some.injEq] at h;subst h;exact Keep.refl _)
 ·simp only[Option.some.injEq] at h;subst h;exact Keep.refl _
 ·split at h
  ·simp only[frc_eq,Option.some.injEq] at h;subst h;exact Keep.refl _
  ·simp only[Option.some.injEq] at h;subst h;exact Keep.refl _
 ·split at h
  ·rename_i id off _ cs cp e
   simp only[frc_eq] at h
   split at h
   ·rename_i m hm
    simp only[Option.some.injEq] at h
    subst h
    exact Keep.of_put hm (fun n _ q=>by rw[e] at q;exact q)
   ·cases h
  ·simp only[Option.some.injEq] at h;subst h;exact Keep.refl _
theorem newL_keep {st st':St}{k:Nat}{o:BObj}{v:IV}{c:Cap}(h:newL st k o=some (v,c,st')):Keep st.m st'.m:=by
 unfold newL at h
 split at h
 ·simp only[Option.some.injEq,Prod.mk.injEq] at h;obtain⟨_,_,rfl⟩:=h;exact Keep.refl _
 ·cases h
theorem newG_keep {st st':St}{o:BObj}{v0 v:IV}{c:Cap}(h:newG st o v0=some (v,c,st')):Keep st.m st'.m:=by
 unfold newG at h
 split at h
 ·rename_i m hm
  simp only[Option.some.injEq,Prod.mk.injEq] at h
  obtain⟨_,_,rfl⟩:=h
  exact Keep.of_push hm
 ·cases h
theorem hideM_spec:∀(h:List Nat) (m m1:IM),hideM m h=some m1→m1.size=m.size∧m1.esc=m.esc∧∀j,m1.get j=if j∈h then .none else m.get j
 |[],m,m1,e=>by simp only[hideM,Option.some.injEq] at e;subst e;exact⟨rfl,rfl,fun j=>by simp⟩
 |id::h,m,m1,e=>by
  simp only[hideM] at e
  split at e
  ·rename_i m2 hm
   obtain⟨a1,a2,a3⟩:=get_put hm
   obtain⟨b1,b2,b3⟩:=hideM_spec h m2 m1 e
   refine⟨by omega,by omega,fun j=>?_⟩
   rw[b3]
   by_cases q:j∈h
   ·simp[q]
   ·simp only[q,if_false,List.mem_cons,or_false]
    rw[a3]
    by_cases q2:id=j
    ·subst q2
     simp only[true_and,if_true]
     split
     ·rfl
     ·rename_i q3
      simp only[IM.get,List.getD_eq_getElem?_getD]
      rw[List.getElem?_eq_none (by simp only[IM.size] at q3;omega)]
      rfl
    ·simp[q2,Ne.symm q2]
  ·cases e
theorem unhideM_spec:∀(h:List Nat) (m m1 m2:IM),unhideM m m1 h=some m2→m2.size=m1.size∧m2.esc=m1.esc∧∀j,m2.get j=if j∈h∧j<m1.size then m.get j else m1.get j
 |[],m,m1,m2,e=>by simp only[unhideM,Option.some.injEq] at e;subst e;exact⟨rfl,rfl,fun j=>by simp⟩
 |id::h,m,m1,m2,e=>by
  simp only[unhideM] at e
  split at e
  ·rename_i m3 hm
   obtain⟨a1,a2,a3⟩:=unhideM_spec h m m1 m3 hm
   obtain⟨b1,b2,b3⟩:=get_put e
   refine⟨by omega,by omega,fun j=>?_⟩
   rw[b3]
   by_cases q:id=j
   ·subst q
    by_cases q2:id<m1.size
    ·rw[if_pos ⟨rfl,by omega⟩,if_pos ⟨List.mem_cons_self,q2⟩]
    ·rw[if_neg (by omega),if_neg (fun q3=>q2 q3.2),a3,if_neg (fun q3=>q2 q3.2)]
   ·rw[if_neg (fun q3=>q q3.1),a3]
    simp[Ne.symm q]
  ·cases e
theorem callI_keep {call:CallT}(hk:CallKeeps call) {st st':St}{c:Callee}{args:List IV}{hide:List Arg}{v:IV}{cp:Cap}(h:callI call st c args hide=some (v,cp,st')):Keep st.m st'.m:=by
 unfold callI at h
 simp only[frc_eq] at h
 split at h
 ·rename_i _ hs _ e
  cases e
  split at h
  ·cases h
  ·rename_i m1 hm1
   split at h
   ·cases h
   ·rename_i v2 m2 hc
    split at h
    ·rename_i m3 lk hm3 _
     simp only[Option.some.injEq,Prod.mk.injEq] at h
     obtain⟨_,_,rfl⟩:=h
     obtain⟨a1,a2,a3⟩:=hideM_spec _ _ _ hm1
     obtain⟨b1,b2,b3⟩:=unhideM_spec _ _ _ _ hm3
     have k:=hk _ _ _ _ _ hc
     refine⟨by have:=k.esc;simp only;omega,by have:=k.size;simp only;omega,fun he n hn hcl j hj=>?_⟩
     simp only at he ⊢
     have hcl1:ClI n m1:=fun j hj=>by
      rw[a3]
      split
      ·exact trivial
      ·exact hcl j hj
     have:=k.cl (by omega) n (by omega) hcl1
     rw[b3]
     split
     ·exact hcl j hj
     ·exact this j hj
    ·cases h
 ·cases h
theorem run_keep {call:CallT}(hk:CallKeeps call) (k:IK) {st st':St}{v:IV}{c:Cap}(h:k.run call st=some (v,c,st')):Keep st.m st'.m:=by
 have same:∀{x:IV}{y:Cap},some (x,y,st)=some (v,c,st')→Keep st.m st'.m:=by
  intro x y e
  simp only[Option.some.injEq,Prod.mk.injEq] at e
  obtain⟨_,_,rfl⟩:=e
  exact Keep.refl _
 cases k with
 |mv x xf lk =>
  simp only[IK.run] at h
  repeat' split at h
  all_goals first
   |cases h;done
   |exact same h
   |(rename_i hd;simp only[Option.some.injEq,Prod.mk.injEq] at h;obtain⟨_,_,rfl⟩:=h;exact drop_keep hd)
 |p o args =>
  simp only[IK.run] at h
  repeat' split at h
  all_goals first
   |cases h;done
   |exact same h
 |same x =>
  simp only[IK.run] at h
  repeat' split at h
  all_goals first
   |cases h;done
   |exact same h
   |(rename_i hd;simp only[Option.some.injEq,Prod.mk.injEq] at h;obtain⟨_,_,rfl⟩:=h;exact drop_keep hd)
 |load agg n x lk =>
  simp only[IK.run] at h
  repeat' split at h
  all_goals first
   |cases h;done
   |exact same h
 |store n x y xf =>
  simp only[IK.run] at h
  split at h
  ·split at h
   ·split at h
    ·split at h
     ·rename_i hd
      split at h
      ·rename_i hs
       simp only[Option.some.injEq,Prod.mk.injEq] at h
       obtain⟨_,_,rfl⟩:=h
       exact (drop_keep hd).trans (storeI_keep hs)
      ·cases h
     ·cases h
    ·split at h
     ·rename_i hs
      simp only[Option.some.injEq,Prod.mk.injEq] at h
      obtain⟨_,_,rfl⟩:=h
      exact storeI_keep hs
     ·cases h
   ·split at h
    ·rename_i hs
     simp only[Option.some.injEq,Prod.mk.injEq] at h
     obtain⟨_,_,rfl⟩:=h
     exact storeI_keep hs
    ·cases h
  ·cases h
 |allocL k zero cp=>exact newL_keep (by simpa only[IK.run] using h)
 |allocG zero cp=>exact newG_keep (by simpa only[IK.run] using h)
 |boxL k n x =>
  simp only[IK.run] at h
  repeat' split at h
  all_goals first
   |cases h;done
   |exact newL_keep h
 |boxG n x =>
  simp only[IK.run] at h
  repeat' split at h
  all_goals first
   |cases h;done
   |exact newG_keep h
 |boxI n x =>
  simp only[IK.run] at h
  repeat' split at h
  all_goals first
   |cases h;done
   |exact same h
 |buildSlice sz len zero parts args =>
  simp only[IK.run] at h
  repeat' split at h
  all_goals first
   |cases h;done
   |exact same h
 |strBytes x =>
  simp only[IK.run] at h
  repeat' split at h
  all_goals first
   |cases h;done
   |exact same h
 |makeI sz bytes zero len cap =>
  simp only[IK.run] at h
  repeat' split at h
  all_goals first
   |cases h;done
   |exact same h
 |makeB sz bytes zero len cap =>
  simp only[IK.run] at h
  repeat' split at h
  all_goals first
   |cases h;done
   |exact newG_keep h
 |append sz bytes s x =>
  simp only[IK.run] at h
  repeat' split at h
  all_goals first
   |cases h;done
   |exact same h
   |(rename_i hd;simp only[Option.some.injEq,Prod.mk.injEq] at h;obtain⟨_,_,rfl⟩:=h;exact drop_keep hd)
 |copy sz d s =>
  simp only[IK.run] at h
  repeat' split at h
  all_goals first
   |cases h;done
   |exact same h
   |(rename_i hd;simp only[Option.some.injEq,Prod.mk.injEq] at h;obtain⟨_,_,rfl⟩:=h;exact storeI_keep hd)
 |callF f args hide =>
  simp only[IK.run] at h
  split at h
  ·exact callI_keep hk h
  ·cases h
 |callV g args hide =>
  simp only[IK.run] at h
  repeat' split at h
  all_goals first
   |cases h;done
   |exact callI_keep hk h
 |mkMap=>exact newG_keep (by simpa only[IK.run] using h)
 |lookup d zero ok m k =>
  simp only[IK.run] at h
  repeat' split at h
  all_goals first
   |cases h;done
   |exact same h
 |mapUpd d m k v =>
  simp only[IK.run] at h
  split at h
  ·rename_i id xk yv _ _ _
   split at h
   ·rename_i es e4
    split at h
    ·rename_i _ _ es' e5 e6
     split at h
     ·rename_i m2 hm
      simp only[Option.some.injEq,Prod.mk.injEq] at h
      obtain⟨_,_,rfl⟩:=h
      simp only[Bool.and_eq_true] at e6
      refine Keep.of_put hm (fun n _ q=>?_)
      rw[e4] at q
      have hu:∀(es es':List (IV×IV)),updI d xk yv es=some es'→(∀p∈es,Lo n p.1∧Lo n p.2)→∀p∈es',Lo n p.1∧Lo n p.2:=by
       intro es
       induction es with
       |nil =>
        intro es' e _ p hp
        simp only[updI,Option.some.injEq] at e
        subst e
        simp only[List.mem_singleton] at hp
        subst hp
        exact⟨Lo.plain e6.2,Lo.plain e6.1⟩
       |cons y es ih =>
        intro es' e hq p hp
        obtain⟨y1,y2⟩:=y
        simp only[updI] at e
        split at e
        ·simp only[Option.some.injEq] at e
         subst e
         rcases List.mem_cons.1 hp with rfl | hp
         ·exact⟨Lo.plain e6.2,Lo.plain e6.1⟩
         ·exact hq p (List.mem_cons_of_mem _ hp)
        ·obtain⟨es2,e7,rfl⟩:=Option.map_eq_some_iff.1 e
         rcases List.mem_cons.1 hp with rfl | hp
         ·exact hq _ List.mem_cons_self
         ·exact ih es2 e7 (fun p hp=>hq p (List.mem_cons_of_mem _ hp)) p hp
        ·cases e
      exact hu es es' e5 q
     ·cases h
    ·cases h
   ·cases h
  ·cases h
 |mapLen m =>
  simp only[IK.run] at h
  repeat' split at h
  all_goals first
   |cases h;done
   |exact same h
 |bytesM m =>
  simp only[IK.run] at h
  repeat' split at h
  all_goals first
   |cases h;done
   |exact same h
 |rangeStr k x =>
  simp only[IK.run] at h
  repeat' split at h
  all_goals first
   |cases h;done
   |exact newL_keep h
 |nextStr x =>
  simp only[IK.run] at h
  repeat' split at h
  all_goals first
   |cases h;done
   |exact same h
   |(simp only[Option.some.injEq,Prod.mk.injEq] at h;obtain⟨_,_,rfl⟩:=h;exact Keep.refl _)
theorem put_m {st st':St}{d:Option Nat}{v:IV}{c:Cap}(h:st.put d v c=some st'):st'.m=st.m∧st'.lb=st.lb:=by
 cases d with
 |none=>simp only[St.put,Option.some.injEq] at h;subst h;exact⟨rfl,rfl⟩
 |some d=>simp only[St.put,frc_eq,frcV_eq,Option.some.injEq] at h;subst h;exact⟨rfl,rfl⟩
theorem op_keep {call:CallT}(hk:CallKeeps call) {o:IOp}{st st':St}(h:o.run call st=some st'):Keep st.m st'.m:=by
 replace h:=IOp.run_run0 h
 unfold IOp.run0 gate at h
 split at h
 ·split at h
  ·rename_i hr
   split at h
   ·rename_i hp
    have h1:=run_keep hk _ hr
    rw[← (put_m hp).1] at h1
    split at h
    ·split at h<;>(simp only[Option.some.injEq] at h;subst h;exact h1)
    ·simp only[Option.some.injEq] at h;subst h;exact h1
   ·cases h
  ·cases h
 ·rw[(put_m h).1];exact Keep.refl _
 ·cases h
theorem ops_keep {call:CallT}(hk:CallKeeps call):∀(l:List IOp) {st st':St},runOps call l st=some st'→Keep st.m st'.m
 |[],st,st',h=>by simp only[runOps,Option.some.injEq] at h;subst h;exact Keep.refl _
 |o::l,st,st',h=>by
  simp only[runOps] at h
  split at h
  ·rename_i h1;exact (op_keep hk h1).trans (ops_keep hk l h)
  ·cases h
def LoopKeeps (loop:LoopT):Prop:=∀h b st e st',loop h b st=some (e,st')→Keep st.m st'.m
theorem code_keep {call:CallT}(hk:CallKeeps call) {loop:LoopT}(hl:LoopKeeps loop):∀(c:ICode) {st:St}{e:Ex}{st':St},c.run call loop st=some (e,st')→Keep st.m st'.m
 |.skip,st,e,st',h=>by simp only[ICode.run,Option.some.injEq,Prod.mk.injEq] at h;obtain⟨_,rfl⟩:=h;exact Keep.refl _
 |.ops l,st,e,st',h=>by
  simp only[ICode.run] at h
  split at h
  ·rename_i h1;simp only[Option.some.injEq,Prod.mk.injEq] at h;obtain⟨_,rfl⟩:=h;exact ops_keep hk l h1
  ·cases h
 |.draw l _,st,e,st',h=>by
  simp only[ICode.run] at h
  split at h
  ·split at h
   ·rename_i h1;simp only[Option.some.injEq,Prod.mk.injEq] at h;obtain⟨_,rfl⟩:=h;exact ops_keep hk l h1
   ·cases h
  ·cases h
 |.seq a b,st,e,st',h=>by
  simp only[ICode.run] at h
  split at h
  ·rename_i h1;exact (code_keep hk hl a h1).trans (code_keep hk hl b h)
  ·exact code_keep hk hl a h
 |.cond c a b,st,e,st',h=>by
  simp only[ICode.run] at h
  split at h
  ·exact code_keep hk hl a h
  ·exact code_keep hk hl b h
  ·cases h
 |.block id b,st,e,st',h=>by
  simp only[ICode.run] at h
  split at h
  ·rename_i h1
   split at h<;>(simp only[Option.some.injEq,Prod.mk.injEq] at h;obtain⟨_,rfl⟩:=h;exact code_keep hk hl b h1)
  ·exact code_keep hk hl b h
 |.loop hd b,st,e,st',h=>hl _ _ _ _ _ (by simpa only[ICode.run] using h)
 |.rangeF g fn site,st,e,st',h=>by
  simp only[ICode.run] at h
  split at h
  ·split at h
   ·rename_i m0 _ hp
    split at h
    ·rename_i m1 hc
     split at h
     ·rename_i m2 _ hput
      have k:Keep st.m m2:=(Keep.of_push hp).trans ((hk _ _ _ _ _ hc).trans (Keep.of_put hput (fun _ _ _=>trivial)))
      repeat' split at h
      all_goals first
       |cases h;done
       |(simp only[Option.some.injEq,Prod.mk.injEq] at h;obtain⟨_,rfl⟩:=h;exact k)
     ·cases h
    ·cases h
   ·cases h
  ·cases h
 |.exit id,st,e,st',h=>by simp only[ICode.run,Option.some.injEq,Prod.mk.injEq] at h;obtain⟨_,rfl⟩:=h;exact Keep.refl _
 |.ret,st,e,st',h=>by simp only[ICode.run,Option.some.injEq,Prod.mk.injEq] at h;obtain⟨_,rfl⟩:=h;exact Keep.refl _
theorem head_m {st st':St}{h:Head}(e:st.head h=some st'):st'.m=st.m:=by
 unfold St.head at e
 split at e
 ·simp only[Option.some.injEq] at e;subst e;rfl
 ·cases e
theorem take_get {m:IM}{n j:Nat}(h:j<n):IM.get { m with bs:=m.bs.take n } j=m.get j:=by
 simp only[IM.get,List.getD_eq_getElem?_getD]
 rw[List.getElem?_take_of_lt h]
theorem settle_keep {m m' m2:IM}{v v':IV}(h:settle m m' v=some (v',m2)) (k:Keep m m'):Keep m m2:=by
 have hcut:Keep m { m' with bs:=m'.bs.take m.size }:=by
  refine⟨k.esc,by have:=k.size;simp only[IM.size] at this ⊢;simp;omega,fun he n hn hc j hj=>?_⟩
  rw[take_get (by omega)]
  exact k.cl he n hn hc j hj
 unfold settle at h
 simp only[frc_eq] at h
 split at h
 ·rename_i _ bs _ e
  cases e
  split at h
  ·split at h
   ·simp only[Option.some.injEq,Prod.mk.injEq] at h;obtain⟨_,rfl⟩:=h;exact hcut
   ·split at h
    ·split at h
     ·simp only[Option.some.injEq,Prod.mk.injEq] at h;obtain⟨_,rfl⟩:=h;exact hcut
     ·simp only[Option.some.injEq,Prod.mk.injEq] at h;obtain⟨_,rfl⟩:=h;exact k
    ·cases h
  ·simp only[Option.some.injEq,Prod.mk.injEq] at h;obtain⟨_,rfl⟩:=h;exact k
 ·cases h
theorem fcall_keep {call:CallT}(hk:CallKeeps call) {loop:LoopT}(hl:LoopKeeps loop) {fn:IFn}{args:List IV}{m m2:IM}{v:IV}(h:fn.call call loop args m=some (v,m2)):Keep m m2:=by
 unfold IFn.call at h
 split at h
 ·cases h
 ·split at h
  ·rename_i hr
   have k:=code_keep hk hl _ hr
   repeat' split at h
   all_goals first
    |cases h;done
    |exact settle_keep h k
  ·cases h
theorem rcall_keep {call:CallT}(hk:CallKeeps call) {loop:LoopT}(hl:LoopKeeps loop) {r:IRnd}{id:Nat}{tm:Env}{args:List IV}{m m2:IM}{v:IV}
  (h:r.call call loop id tm args m=some (v,m2)):Keep m m2:=by
 unfold IRnd.call at h
 split at h
 ·cases h
 ·split at h
  ·rename_i st1 hr1
   have k1:=code_keep hk hl _ hr1
   split at h
   ·rename_i f1 s1 t1 j1 e1
    split at h
    ·rename_i m1 e2
     split at h
     ·rename_i e st2 hr2
      have k2:=code_keep hk hl _ hr2
      split at h
      ·rename_i f2 s2 t2 j2 e3
       split at h
       ·rename_i m3 e4
        exact settle_keep h (k1.trans ((Keep.of_put e2 (fun n hn q=>by rw[e1] at q;exact q)).trans (k2.trans (Keep.of_put e4 (fun n hn q=>by rw[e3] at q;exact q)))))
       ·cases h
      ·cases h
     ·cases h
    ·cases h
   ·cases h
  ·cases h
theorem sem_keep (tab:Tab) (prims:Prims):∀k,CallKeeps (sem tab prims k).call∧LoopKeeps (sem tab prims k).loop
 |0=>by
  refine⟨?_,?_⟩
  ·intro c args m v m' h;simp[sem] at h
  ·intro hd b st e st' h;simp[sem] at h
 |k+1=>by
  obtain⟨h1,h2⟩:=sem_keep tab prims k
  refine⟨fun c args m v m' h=>?_,fun hd b st e st' h=>?_⟩
  ·simp only[sem] at h
   split at h
   ·split at h
    ·obtain⟨x,_,e⟩:=Option.map_eq_some_iff.1 h
     simp only[Prod.mk.injEq] at e
     obtain⟨_,rfl⟩:=e
     exact Keep.refl _
    ·split at h
     ·exact fcall_keep h1 h2 h
     ·cases h
   ·split at h
    ·split at h
     ·exact rcall_keep h1 h2 h
     ·cases h
    ·cases h
  ·simp only[sem] at h
   split at h
   ·cases h
   ·rename_i st1 hst
    have e0:=head_m hst
    split at h
    ·rename_i st2 hr
     have:=(code_keep h1 h2 _ hr).trans (h2 _ _ _ _ _ h)
     rw[e0] at this;exact this
    ·have:=code_keep h1 h2 _ h
     rw[e0] at this;exact this
end Go.Idl
namespace Go.Idl
open Classical
variable {X:Ctx}{N:Nat}{G:Gh}{st:St}{a:Act}{w:World}
abbrev Fr (ro:Option Nat):Fence:={ Fence.wide with round:=ro }
def LinkV (G:Gh) (a:Act) (w:World) (r:Value):Loc→Prop
 |.slot j=>r=a.tmps.getD j undef
 |.L k off=>∃b,G.lb k=some b∧w.cell? ⟨b,off,none⟩=some r
 |.B id off=>∃b,G.bx id=some b∧w.cell? ⟨b,off,none⟩=some r
 |.marked=>∀b o sp len cap,r=.slice (some ⟨b,o,sp⟩) len cap→Markable G w b
def IK.calls:IK→Bool
 |.callF .. | .callV ..=>true
 |_=>false
theorem ik_sound (h:SR X N G st a w) (call:CallT) {o:Oper}{k:IK}(hk:KR X.P X.rows o.op k) (hn:k.calls=false) {v:IV}{c:Cap}{st':St}(hr:k.run call st=some (v,c,st')) :
  ∃r w' G',OpRun X.P o a.eval w r w'∧OR X N G w st' a v c r G' w'∧∀l,k.link st.env=some l→LinkV G' a w' r l:=by
 have lift:∀{w':World},(∃r G',OpRun X.P o a.eval w r w'∧OR X N G w st' a v c r G' w')→(∀l,k.link st.env≠some l) →
   ∃r w' G',OpRun X.P o a.eval w r w'∧OR X N G w st' a v c r G' w'∧∀l,k.link st.env=some l→LinkV G' a w' r l:=by
  rintro w' ⟨r,G',h1,h2⟩ hl
  exact⟨r,w',G',h1,h2,fun l e=>absurd e (hl l)⟩
 have lift':(∃r w' G',OpRun X.P o a.eval w r w'∧OR X N G w st' a v c r G' w')→(∀l,k.link st.env≠some l) →
   ∃r w' G',OpRun X.P o a.eval w r w'∧OR X N G w st' a v c r G' w'∧∀l,k.link st.env=some l→LinkV G' a w' r l:=by
  rintro ⟨r,w',G',h1,h2⟩ hl
  exact⟨r,w',G',h1,h2,fun l e=>absurd e (hl l)⟩
 generalize hop:o.op=op at hk
 cases hk with
 |move x x' xf lk hx =>
  obtain⟨r,G',h1,h2⟩:=mv_sound h call hx hr o (.inl hop)
  refine⟨r,w,G',h1,h2,fun l e=>?_⟩
  cases hx with
  |tmp i =>
   cases xf<;>cases lk<;>simp[IK.link] at e
   subst e
   rcases h1 with h1 | ⟨h1,_⟩
   ·simp[execOp,hop] at h1;exact h1.symm
   ·simp[execOp,hop] at h1
  |_=>simp[IK.link] at e
 |assign x x' xf lk hx =>
  obtain⟨r,G',h1,h2⟩:=mv_sound h call hx hr o (.inr hop)
  refine⟨r,w,G',h1,h2,fun l e=>?_⟩
  cases hx with
  |tmp i =>
   cases xf<;>cases lk<;>simp[IK.link] at e
   subst e
   rcases h1 with h1 | ⟨h1,_⟩
   ·simp[execOp,hop] at h1;exact h1.symm
   ·simp[execOp,hop] at h1
  |_=>simp[IK.link] at e
 |p op po xs as hp ha =>
  simp only[IK.run] at hr
  split at hr
  ·rename_i vs e1
   split at hr
   ·rename_i v0 e2
    simp only[Option.some.injEq,Prod.mk.injEq] at hr
    obtain⟨rfl,rfl,rfl⟩:=hr
    obtain⟨r,h1,h2⟩:=pure_sound h hp (SVs.of h ha e1) e2 (o:=o) hop
    exact⟨r,w,G,.inl h1,OR.same h h2,fun l e=>by simp[IK.link] at e⟩
   ·cases hr
  ·cases hr
 |same t e x x' ht he hx=>exact lift' (same_sound h call ht he hx hr o hop) (by simp[IK.link])
 |load t d n bytes agg x x' lk ht hx =>
  simp only[IK.run] at hr
  split at hr
  ·rename_i p e
   split at hr
   ·rename_i v' e'
    simp only[Option.some.injEq,Prod.mk.injEq] at hr
    obtain⟨rfl,rfl,rfl⟩:=hr
    have hp:=h.rd hx e
    obtain⟨r,h1,h2,h3⟩:=loadI_sound h ht e' hp
    refine⟨r,w,G,.inl (by simp[execOp,hop,h1]),OR.same h h2,fun l el=>?_⟩
    cases agg with
    |true=>simp[IK.link] at el
    |false =>
     cases lk with
     |false=>simp[IK.link] at el
     |true =>
      simp only[IK.link,e] at el
      obtain⟨b,o',h4,h5⟩:=h3 rfl
      split at el
      ·rename_i k off q
       cases q
       simp only[Option.some.injEq] at el
       subst el
       obtain⟨b',hb,hq⟩:=hp
       rw[hq] at h4
       simp only[Value.pointer.injEq,Option.some.injEq,Addr.mk.injEq,and_true] at h4
       obtain⟨rfl,rfl⟩:=h4
       exact⟨b',hb,h5⟩
      ·rename_i id off q
       cases q
       simp only[Option.some.injEq] at el
       subst el
       rw[h4] at hp
       cases hp with
       |pB _ _ _ hb=>exact⟨b,hb,h5⟩
      ·cases el
   ·cases hr
  ·cases hr
 |store t d n bytes agg x x' y y' xf ht hx hy=>exact lift' (store_sound h call ht hx hy hr o hop) (by simp[IK.link])
 |allocL t zero k cp hz=>exact lift' (alloc_sound h call hz (.inl ⟨k,cp,rfl⟩) hr o hop) (by simp[IK.link])
 |allocG t zero cp hz=>exact lift' (alloc_sound h call hz (.inr ⟨cp,rfl⟩) hr o hop) (by simp[IK.link])
 |boxL t n k x x' hx=>exact lift' (box_sound h call hx (.inl ⟨k,rfl⟩) hr o hop) (by simp[IK.link])
 |boxG t n x x' hx=>exact lift' (box_sound h call hx (.inr rfl) hr o hop) (by simp[IK.link])
 |boxI t n x x' hx=>exact lift' (boxI_sound h call hx hr o hop) (by simp[IK.link])
 |buildSlice t e len ps zero parts as d n bytes agg ht hs hz hp hl ha =>
  obtain⟨r,w',G',h1,h2,h3⟩:=buildSlice_sound h call ht hs hz hp hl ha hr o hop
  refine⟨r,w',G',h1,h2,fun l e=>?_⟩
  unfold IK.link at e
  split at e<;>first
   |(rename_i q;cases q;done)
   |(cases e;exact h3)
   |(cases e;done)
 |strBytes s d e x x' hs hd he hx =>
  obtain⟨r,w',G',h1,h2,h3⟩:=strBytes_sound h call hs hd he hx hr o hop
  refine⟨r,w',G',h1,h2,fun l e=>?_⟩
  simp only[IK.link,Option.some.injEq] at e
  subst e
  exact h3
 |makeI t e l c l' c' zero d n bytes agg ht hs hz hl hc=>exact lift' (makeI_sound h call ht hs hz hl hc hr o hop) (by simp[IK.link])
 |makeB t e l c l' c' zero d n bytes agg ht hs hz hl hc=>exact lift' (makeB_sound h call ht hs hz hl hc hr o hop) (by simp[IK.link])
 |append t u e s x s' x' zero d n bytes agg ht hu hs hb hn0 hz h1 h2=>exact lift' (append_sound h call ht hu hs hb hn0 hz h1 h2 hr o hop) (by simp[IK.link])
 |copy t u e d s d' s' td n bytes agg ht hs h1 h2=>exact lift' (copy_sound h call ht hs h1 h2 hr o hop) (by simp[IK.link])
 |callF=>simp[IK.calls] at hn
 |callV=>simp[IK.calls] at hn
 |mkMap t=>exact lift' (mkMap_sound h call hr o hop) (by simp[IK.link])
 |lookup t k e m m' x x' zero ok d ed ht hk hkd hz hm hx=>exact lift' (lookup_sound h call ht hk hkd hz hm hx hr o hop) (by simp[IK.link])
 |mapUpd t k e m m' x x' v v' d ed ht hk hkd hm hx hv=>exact lift' (mapUpd_sound h call ht hk hkd hm hx hv hr o (.inl hop)) (by simp[IK.link])
 |ins t k e m m' x x' v v' d ed ht hk hkd hm hx hv=>exact lift' (mapUpd_sound h call ht hk hkd hm hx hv hr o (.inr hop)) (by simp[IK.link])
 |mapLen t k e m m' ht hm=>exact lift' (mapLen_sound h call ht hm hr o hop) (by simp[IK.link])
 |bytesM s d x e x' hs he hd hx=>exact lift' (bytesM_sound h call hs he hd hx hr o hop) (by simp[IK.link])
 |rangeStr t x x' k ht hx=>exact lift' (rangeStr_sound h call ht hx hr o hop) (by simp[IK.link])
 |nextStr x x' hx=>exact lift' (nextStr_sound h call hx hr o hop) (by simp[IK.link])
end Go.Idl
namespace Go.Idl
open Classical
variable {X:Ctx}{N:Nat}{G:Gh}{st:St}{a:Act}{w:World}
def After (X:Ctx) (G:Gh) (w:World) (m':IM) (v:IV) (r:Value) (w':World):Prop:=∃G',MR X G' m' w'∧WF X G' w'∧VR G' v r∧Step G w G' w'
noncomputable def Gh.cow (G:Gh) (h:List Nat) (b j:Nat):Option Loc:=match G.ow b j with | some (.B id off)=>if id∈h then none else some (.B id off) | _=>none
noncomputable def Gh.callee (G:Gh) (h:List Nat) (n:Nat):Gh where
 imm:=G.imm
 bx:=G.bx
 lb:=fun _=>none
 ow:=G.cow h
 hid:=fun id=>G.hid id||h.contains id
 old:=n
noncomputable def Gh.back (G:Gh) (h:List Nat) (G':Gh):Gh where
 imm:=G'.imm
 bx:=G'.bx
 lb:=G.lb
 ow:=fun b j=>match G.ow b j,G.cow h b j with | some l,none=>some l | _,_=>G'.ow b j
 hid:=G.hid
 old:=G.old
theorem callee_ow {h:List Nat}{n:Nat}{b j:Nat}{l:Loc}(e:(G.callee h n).ow b j=some l):G.ow b j=some l∧∃id off,l=.B id off∧id∉h:=by
 simp only[Gh.callee,Gh.cow] at e
 split at e
 ·rename_i id off q
  split at e
  ·cases e
  ·rename_i q2
   simp only[Option.some.injEq] at e
   subst e
   exact⟨q,id,off,rfl,q2⟩
 ·cases e
theorem callee_ow_none {h:List Nat}{n:Nat}{b j:Nat}(e:G.ow b j=none):(G.callee h n).ow b j=none:=by
 simp[Gh.callee,Gh.cow,e]
theorem VR.callee {h:List Nat}{n:Nat}{v:IV}{r:Value}(k:VR G v r):VR (G.callee h n) v r:=VR.mono (G:=G) (G':=G.callee h n) (fun _ _ _ e=>e) (fun _ _ e=>e) k
theorem ORel.callee {h:List Nat}{n:Nat}{v:BObj}{r:Obj}(k:ORel X G v r):ORel X (G.callee h n) v r:=ORel.mono (G:=G) (G':=G.callee h n) (fun _ _ _ e=>e) (fun _ _ e=>e) k
theorem callee_opn {h:List Nat}{n:Nat}{b:Nat}(k:(G.callee h n).opn b):G.opn b:=by
 rcases k with ⟨id,e1,e2⟩ | ⟨k,e⟩
 ·simp only[Gh.callee,Bool.or_eq_false_iff] at e2
  exact .inl ⟨id,e1,e2.1⟩
 ·simp[Gh.callee] at e
theorem WF.callee (h:List Nat) {n:Nat}(hn:n≤w.heap.size) (hw:WF X G w):WF X (G.callee h n) w where
 imm:=hw.imm
 inj:=hw.inj
 linj i j b e:=by simp[Gh.callee] at e
 disj i k b _ e:=by simp[Gh.callee] at e
 boxlt b k:=by
  rcases k with ⟨id,e⟩ | ⟨k,e⟩
  ·exact hw.boxlt b (.inl ⟨id,e⟩)
  ·simp[Gh.callee] at e
 boximm b o k:=by
  rcases k with ⟨id,e⟩ | ⟨k,e⟩
  ·exact hw.boximm b o (.inl ⟨id,e⟩)
  ·simp[Gh.callee] at e
 boxow b o k:=by
  rcases k with ⟨id,e⟩ | ⟨k,e⟩
  ·exact callee_ow_none (hw.boxow b o (.inl ⟨id,e⟩))
  ·simp[Gh.callee] at e
 owimm b o l e:=hw.owimm b o l (callee_ow e).1
 owcell b o l e:=hw.owcell b o l (callee_ow e).1
 glob g row hr:=(hw.glob g row hr).callee
 old:=hn
theorem MR.callee {m m1 : IM} (hm : MR X G m w) {h : List Nat} {n : Nat} (hh : hideM m h = some m1) (hb : ∀ id ∈ h, ∃ b, G.bx id = some b) : MR X (G.callee h n) m1 w := by
  obtain ⟨h1, h2, h3⟩ := hideM_spec _ _ _ hh
  refine { bx := ?_, own := ?_, dom := fun id b e => by rw [h1]; exact hm.dom id b e, hid := ?_ }
  · intro id hn
    rw [h3] at hn ⊢
    split at hn
    · exact absurd rfl hn
    · rename_i q
      rw [if_neg q]
      obtain ⟨b, ro, e1, e2, e3⟩ := hm.bx id hn
      exact ⟨b, ro, e1, e2, e3.callee⟩
  · intro id cs cp off sz e1 e2 b r e3 e4
    rw [h3] at e1
    split at e1
    · cases e1
    · rename_i q
      have ho := hm.own id cs cp off sz e1 e2 b r e3 e4
      intro b' o sp len cap e5
      obtain ⟨k1, k2⟩ := ho b' o sp len cap e5
      refine ⟨k1, fun j hj1 hj2 => ?_⟩
      simp only [Gh.callee, Gh.cow, k2 j hj1 hj2, q, if_false]
  · intro id e
    rw [h1, h3]
    simp only [Gh.callee, Bool.or_eq_true, List.contains_iff_mem] at e
    rcases e with e | e
    · obtain ⟨q1, q2⟩ := hm.hid id e
      exact ⟨q1, by split; · rfl
                    · exact q2⟩
    · obtain ⟨b, hb⟩ := hb id e
      exact ⟨hm.dom id b hb, by rw [if_pos e]⟩
theorem mem_lkC {f:Nat→Bool}{lk:List (Nat×Loc)}{i:Nat}{l:Loc}(h:(i,l)∈lkC f lk):(i,l)∈lk∧l ≠ .marked∧∀id off,l=.B id off→f id=false:=by
 induction lk with
 |nil=>simp[lkC] at h
 |cons p lk ih =>
  obtain⟨i',l'⟩:=p
  simp only[lkC] at h
  split at h
  ·split at h
   ·exact⟨List.mem_cons_of_mem _ (ih h).1,(ih h).2⟩
   ·rename_i q
    rcases List.mem_cons.1 h with e | h
    ·cases e;exact⟨List.mem_cons_self,by simp,fun id off e=>by cases e;simpa using q⟩
    ·exact⟨List.mem_cons_of_mem _ (ih h).1,(ih h).2⟩
  ·exact⟨List.mem_cons_of_mem _ (ih h).1,(ih h).2⟩
  ·rename_i q1 q2
   rcases List.mem_cons.1 h with e | h
   ·cases e;exact⟨List.mem_cons_self,q2,fun id off e=>absurd e (q1 id off)⟩
   ·exact⟨List.mem_cons_of_mem _ (ih h).1,(ih h).2⟩
theorem Step.still {G':Gh}{w':World}(s:Step G w G' w') {b:Nat}{o:Obj}(hb:w.heap[b]?=some o) (hn:¬G.opn b) (ho:∀j,G.ow b j=none) (hold:b<G.old):w'.heap[b]?=some o:=by
 cases o with
 |cells c t f =>
  obtain⟨c',f',e1,e2,e3,e4⟩:=s.cells b c t f hb hn
  have hf:f'=f:=e4.resolve_right (fun q=>by have:=q.1;omega)
  subst hf
  have:c'=c:=by
   apply Array.ext_getElem?
   intro i
   exact e3 i (ho i)
  rw[e1,this]
 |_=>exact s.other b _ hb hn (fun c t f e=>by cases e)
theorem back_sound (h:SR X N G st a w) {hs:List Nat}(hb:∀id∈hs,∃b,G.bx id=some b) {m1 m' m2:IM}(h1:hideM st.m hs=some m1) (h2:unhideM st.m m' hs=some m2) {G':Gh}{w':World}(hm:MR X G' m' w') (hw:WF X G' w')
  (s:Step (G.callee hs w.heap.size) w G' w'):SR X N (G.back hs G') { st with m:=m2,lk:=lkC (fun i=>!hs.contains i) st.lk } a w'∧Step G w (G.back hs G') w':=by
 obtain⟨a1,a2,a3⟩:=unhideM_spec _ _ _ _ h2
 have mi:∀b o v,G.imm b o=some v→(G.back hs G').imm b o=some v:=s.imm
 have mb:∀id b,G.bx id=some b→(G.back hs G').bx id=some b:=s.bx
 have ml:∀k b,G.lb k=some b→(G.back hs G').lb k=some b:=fun _ _ e=>e
 have owlt:∀b j l,G.ow b j=some l→b<w.heap.size:=fun b j l e=>by
  obtain⟨v,hv⟩:=Option.isSome_iff_exists.1 (h.wf.owcell b j l e).1
  exact World.block_lt_of_cell? _ _ hv
 have owG:∀b j l,G.ow b j=some l→(G.callee hs w.heap.size).ow b j=none→(G.back hs G').ow b j=some l:=fun b j l e e2=>by simp only[Gh.back,e,show G.cow hs b j=none from e2]
 have owN:∀b j,G.ow b j=none→(G.back hs G').ow b j=G'.ow b j:=fun b j e=>by simp only[Gh.back,e]
 have owB:∀b j l,(G.callee hs w.heap.size).ow b j=some l→(G.back hs G').ow b j=G'.ow b j:=fun b j l e=>by simp only[Gh.back,(callee_ow e).1,show G.cow hs b j=some l from e]
 have notB:∀b j l,G.ow b j=some l→(∀id off,l=.B id off→id∈hs)→(G.callee hs w.heap.size).ow b j=none:=fun b j l e q=>by
  cases e2:(G.callee hs w.heap.size).ow b j with
  |none=>rfl
  |some l2 =>
   obtain⟨e3,id,off,rfl,e4⟩:=callee_ow e2
   rw[e] at e3
   simp only[Option.some.injEq] at e3
   exact absurd (q id off e3) e4
 have ownOf:∀{l sz r},OwnAt G l sz r→(∀id off,l=.B id off→id∈hs)→OwnAt (G.back hs G') l sz r:=fun {l sz r} ho q b o sp len cap e=>by
  obtain⟨k1,k2⟩:=ho b o sp len cap e
  exact⟨k1,fun j hj1 hj2=>owG b j l (k2 j hj1 hj2) (notB b j l (k2 j hj1 hj2) q)⟩
 have lbN:∀k b,G.lb k=some b→¬(G.callee hs w.heap.size).opn b:=fun k b e q=>by
  rcases q with ⟨id,e1,_⟩ | ⟨k',e1⟩
  ·exact h.wf.disj id k b e1 e
  ·simp[Gh.callee] at e1
 have hidN:∀id b,id∈hs→G.bx id=some b→¬(G.callee hs w.heap.size).opn b:=fun id b hi e q=>by
  rcases q with ⟨id',e1,e2⟩ | ⟨k',e1⟩
  ·have:=h.wf.inj _ _ _ e e1
   subst this
   simp[Gh.callee,hi] at e2
  ·simp[Gh.callee] at e1
 have lbStill:∀k b o,G.lb k=some b→w.heap[b]?=some o→w'.heap[b]?=some o:=fun k b o e e2 =>
  s.still e2 (lbN k b e) (fun j=>callee_ow_none (h.wf.boxow b j (.inr ⟨k,e⟩))) (heap_lt e2)
 have hidStill:∀id b o,id∈hs→G.bx id=some b→w.heap[b]?=some o→w'.heap[b]?=some o:=fun id b o hi e e2 =>
  s.still e2 (hidN id b hi e) (fun j=>callee_ow_none (h.wf.boxow b j (.inl ⟨id,e⟩))) (heap_lt e2)
 have cellS:∀{b o v},w.cell? ⟨b,o,none⟩=some v→(∀x,w.heap[b]?=some x→w'.heap[b]?=some x)→w'.cell? ⟨b,o,none⟩=some v:=fun {b o v} e q=>by
  have hlt:=World.block_lt_of_cell? _ _ e
  obtain⟨x,hx⟩:∃x,w.heap[b]?=some x:=⟨_,Array.getElem?_eq_getElem hlt⟩
  rw[World.cell?_of_block ((q x hx).trans hx.symm)]
  exact e
 have mo:∀{x ro},ORel X G x ro→ORel X (G.back hs G') x ro:=fun hh=>hh.mono mi mb
 have mo':∀{x ro},ORel X G' x ro→ORel X (G.back hs G') x ro:=fun hh=>ORel.mono (G:=G') (G':=G.back hs G') (fun _ _ _ e=>e) (fun _ _ e=>e) hh
 refine⟨{ size:=h.size,env:=?_,own:=?_,lk:=?_,lb:=?_,lbown:=?_,lbdom:=h.lbdom,mr:=?_,wf:=?_ },?_⟩
 ·intro i v c e
  exact⟨(h.env i v c e).1.mono mi mb ml,(h.env i v c e).2⟩
 ·intro i v sz e
  exact ownOf (h.own i v sz e) (fun _ _ q=>by cases q)
 ·intro i l hmem
  obtain⟨k1,k2,k3⟩:=mem_lkC hmem
  have hl:=h.lk i l k1
  cases l with
  |slot j=>exact hl
  |L k off =>
   obtain⟨b,e1,e2⟩:=hl
   exact⟨b,e1,cellS e2 (fun x hx=>lbStill k b x e1 hx)⟩
  |B id off =>
   obtain⟨b,e1,e2⟩:=hl
   have hi:id∈hs:=by have:=k3 id off rfl;simpa using this
   exact⟨b,mb _ _ e1,cellS e2 (fun x hx=>hidStill id b x hi e1 hx)⟩
  |marked=>exact absurd rfl k2
 ·intro k hn
  obtain⟨b,ro,e1,e2,e3⟩:=h.lb k hn
  exact⟨b,ro,e1,lbStill k b ro e1 e2,mo e3⟩
 ·intro k cs cp off sz e1 e2 b r e3 e4
  obtain⟨b',ro,q1,q2,q3⟩:=h.lb k (by rw[e1];simp)
  replace e3:G.lb k=some b:=e3
  rw[e3] at q1
  simp only[Option.some.injEq] at q1
  subst q1
  have e5:w.cell? ⟨b,off,none⟩=some r:=by
   rw[←World.cell?_of_block ((lbStill k b ro e3 q2).trans q2.symm)];exact e4
  exact ownOf (h.lbown k cs cp off sz e1 e2 b r e3 e5) (fun _ _ q=>by cases q)
 ·refine { bx:=?_,own:=?_,dom:=fun id b e=>by rw[a1];exact hm.dom id b e,hid:=?_ }
  ·intro id hn
   simp only[a3] at hn ⊢
   split at hn
   ·rename_i q
    rw[if_pos q]
    obtain⟨b,ro,e1,e2,e3⟩:=h.mr.bx id hn
    exact⟨b,ro,mb _ _ e1,hidStill id b ro q.1 e1 e2,mo e3⟩
   ·rename_i q
    rw[if_neg q]
    obtain⟨b,ro,e1,e2,e3⟩:=hm.bx id hn
    exact⟨b,ro,e1,e2,mo' e3⟩
  ·intro id cs cp off sz e1 e2 b r e3 e4
   simp only[a3] at e1
   split at e1
   ·rename_i q
    obtain⟨b',ro,q1,q2,q3⟩:=h.mr.bx id (by rw[e1];simp)
    have:b'=b:=by have:=mb _ _ q1;rw[e3] at this;exact (Option.some.inj this).symm
    subst this
    have e5:w.cell? ⟨b',off,none⟩=some r:=by
     rw[←World.cell?_of_block ((hidStill id b' ro q.1 q1 q2).trans q2.symm)];exact e4
    exact ownOf (h.mr.own id cs cp off sz e1 e2 b' r q1 e5) (fun _ _ e=>by cases e;exact q.1)
   ·have ho:=hm.own id cs cp off sz e1 e2 b r e3 e4
    intro b' o sp len cap e5
    obtain⟨k1,k2⟩:=ho b' o sp len cap e5
    refine⟨k1,fun j hj1 hj2=>?_⟩
    have e6:=k2 j hj1 hj2
    cases e7:G.ow b' j with
    |none=>rw[owN b' j e7];exact e6
    |some l =>
     have:=s.owNew b' j _ (owlt b' j l e7) e6
     obtain⟨l2,hl2⟩:=Option.isSome_iff_exists.1 this
     rw[owB b' j l2 hl2];exact e6
  ·intro id e
   have e':G'.hid id=true:=by rw[s.hid];simp only[Gh.callee,Bool.or_eq_true];exact .inl e
   obtain⟨q1,q2⟩:=hm.hid id e'
   refine⟨by rw[a1];exact q1,?_⟩
   simp only[a3]
   split
   ·exact (h.mr.hid id e).2
   ·exact q2
 ·refine { imm:=hw.imm,inj:=hw.inj,linj:=h.wf.linj,disj:=?_,boxlt:=?_,boximm:=?_,boxow:=?_,owimm:=?_,owcell:=?_,old:=Nat.le_trans h.wf.old s.size,glob:=fun g row hr=>VR.mono (G:=G') (G':=G.back hs G') (fun _ _ _ e=>e) (fun _ _ e=>e) (hw.glob g row hr)}
  ·intro i k b e1 e2
   rcases s.bxNew i b e1 with e | e
   ·exact h.wf.disj i k b e e2
   ·have:=h.wf.boxlt b (.inr ⟨k,e2⟩);omega
  ·intro b q
   rcases q with ⟨i,e⟩ | ⟨k,e⟩
   ·exact hw.boxlt b (.inl ⟨i,e⟩)
   ·exact Nat.lt_of_lt_of_le (h.wf.boxlt b (.inr ⟨k,e⟩)) s.size
  ·intro b o q
   rcases q with ⟨i,e⟩ | ⟨k,e⟩
   ·exact hw.boximm b o (.inl ⟨i,e⟩)
   ·cases e2:(G.back hs G').imm b o with
    |none=>rfl
    |some v =>
     have hbx:G.boxed b:=.inr ⟨k,e⟩
     rcases s.immNew b o v (h.wf.boxlt b hbx) (lbN k b e) e2 with e3 | e3
     ·have:=h.wf.boximm b o hbx
      rw[show (G.callee hs w.heap.size).imm b o=G.imm b o from rfl,this] at e3;cases e3
     ·rw[callee_ow_none (h.wf.boxow b o hbx)] at e3;cases e3
  ·intro b o q
   cases e2:G.ow b o with
   |none =>
    rw[owN b o e2]
    rcases q with ⟨i,e⟩ | ⟨k,e⟩
    ·exact hw.boxow b o (.inl ⟨i,e⟩)
    ·cases e3:G'.ow b o with
     |none=>rfl
     |some l =>
      have:=s.owNew b o l (h.wf.boxlt b (.inr ⟨k,e⟩)) e3
      rw[callee_ow_none e2] at this;cases this
   |some l =>
    exfalso
    rcases q with ⟨i,e⟩ | ⟨k,e⟩
    ·rcases s.bxNew i b e with e3 | e3
     ·rw[h.wf.boxow b o (.inl ⟨i,e3⟩)] at e2;cases e2
     ·have:=owlt b o l e2;omega
    ·rw[h.wf.boxow b o (.inr ⟨k,e⟩)] at e2;cases e2
  ·intro b o l e
   cases e2:G.ow b o with
   |none=>rw[owN b o e2] at e;exact hw.owimm b o l e
   |some l' =>
    cases e3:(G.callee hs w.heap.size).ow b o with
    |some l2=>rw[owB b o l2 e3] at e;exact hw.owimm b o l e
    |none =>
     cases e4:(G.back hs G').imm b o with
     |none=>rfl
     |some v =>
      have hnb:¬(G.callee hs w.heap.size).opn b:=fun q=>by
       have:=h.wf.boxow b o (callee_opn q).boxed
       rw[this] at e2;cases e2
      rcases s.immNew b o v (owlt b o l' e2) hnb e4 with e5 | e5
      ·have:=h.wf.owimm b o l' e2
       rw[show (G.callee hs w.heap.size).imm b o=G.imm b o from rfl,this] at e5;cases e5
      ·rw[e3] at e5;cases e5
  ·intro b o l e
   cases e2:G.ow b o with
   |none=>rw[owN b o e2] at e;exact hw.owcell b o l e
   |some l' =>
    cases e3:(G.callee hs w.heap.size).ow b o with
    |some l2=>rw[owB b o l2 e3] at e;exact hw.owcell b o l e
    |none =>
     obtain⟨k1,k2⟩:=h.wf.owcell b o l' e2
     have hnb:¬(G.callee hs w.heap.size).opn b:=fun q=>by
      have:=h.wf.boxow b o (callee_opn q).boxed
      rw[this] at e2;cases e2
     obtain⟨v,hv⟩:=Option.isSome_iff_exists.1 k1
     obtain⟨rc,t,f,hheap⟩:∃rc t f,w.heap[b]?=some (.cells ⟨rc⟩ t f):=by
      unfold World.cell? at hv
      split at hv
      ·rename_i c e f hb;exact⟨c.toList,e,f,hb⟩
      ·cases hv
     obtain⟨c',f',q1,q2,q3,q5⟩:=s.cells b _ t f hheap hnb
     have hf:f'=f:=q5.resolve_right (fun q=>by have q:=q.1;have:=heap_lt hheap;simp only[Gh.callee] at q;omega)
     subst hf
     have q4:=q3 o e3
     refine⟨?_,?_⟩
     ·rw[cell_of_heap (rc:=c'.toList) (by simpa using q1)]
      rw[cell_of_heap hheap] at hv
      have:c'[o]?=some v:=by rw[q4];simpa using hv
      simp[this]
     ·rw[frozen_of_heap hheap] at k2
      rw[frozen_of_heap (rc:=c'.toList) (by simpa using q1)]
      exact k2
 ·refine { os:=s.os,tape:=s.tape,output:=s.output,size:=s.size,imm:=mi,bx:=mb,other:=fun b o e nb nc=>s.other b o e (fun q=>nb (callee_opn q)) nc,cells:=?_,immNew:=?_,owNew:=?_,boxNew:=?_,hid:=rfl,old:=rfl,bxNew:=s.bxNew,loop:=s.loop }
  ·intro b c t f e nb
   obtain⟨c',f',q1,q2,q3,q5⟩:=s.cells b c t f e (fun q=>nb (callee_opn q))
   have hf:f'=f:=q5.resolve_right (fun q=>by have q:=q.1;have:=heap_lt e;simp only[Gh.callee] at q;omega)
   exact⟨c',f',q1,q2,fun i hi=>q3 i (callee_ow_none hi),.inl hf⟩
  ·intro b o v hb nb e
   rcases s.immNew b o v hb (fun q=>nb (callee_opn q)) e with e | e
   ·exact .inl e
   ·obtain⟨l,hl⟩:=Option.isSome_iff_exists.1 e
    exact .inr (by rw[(callee_ow hl).1];rfl)
  ·intro b o l hb e
   cases e2:G.ow b o with
   |some l'=>rfl
   |none =>
    rw[owN b o e2] at e
    have:=s.owNew b o l hb e
    rw[callee_ow_none e2] at this;cases this
  ·intro b hb q
   rcases q with ⟨i,e1,e2⟩ | ⟨k,e⟩
   ·rcases s.bxNew i b e1 with e | e
    ·exact .inl ⟨i,e,e2⟩
    ·omega
   ·exact .inr ⟨k,e⟩
end Go.Idl
namespace Go.Idl
open Classical
variable {X:Ctx}{N:Nat}{G:Gh}{st:St}{a:Act}{w:World}
def Enters (X:Ctx) (f:FuncId) (rs:List Value) (w:World) (R:Value→World→Prop):Prop :=
 (callFunc f ⟨rs⟩).run X.P w=.ok (.enter f ⟨rs⟩) w∧CallsIn Fence.wide 0 X.P f ⟨rs⟩ w (fun e w'=>∃r,e=.returned r∧R r w')
def Reach (X:Ctx) (f:FuncId) (rs:List Value) (w:World) (R:Value→World→Prop):Prop :=
 Enters X f rs w R∨(∃r w',(callFunc f ⟨rs⟩).run X.P w=.ok (.value r) w'∧R r w')
def YieldR (X:Ctx) (b:Nat) (rs:List Value) (w:World) (R:Value→World→Prop):Prop :=
 ∃fn tm as bd,(Instr.yield b ⟨rs⟩).run X.P w=.ok (.round b fn tm as bd) w∧RoundIn Fence.wide 0 X.P b fn tm as bd w (fun e w'=>∃r,e=.returned r∧R r w')
theorem Enters.mono {f:FuncId}{rs:List Value}{R R':Value→World→Prop}(h:Enters X f rs w R) (hr:∀r w',R r w'→R' r w'):Enters X f rs w R' :=
 ⟨h.1,h.2.mono fun e w' ⟨r,q1,q2⟩=>⟨r,q1,hr _ _ q2⟩⟩
theorem Reach.mono {f:FuncId}{rs:List Value}{R R':Value→World→Prop}(h:Reach X f rs w R) (hr:∀r w',R r w'→R' r w'):Reach X f rs w R':=by
 rcases h with h | ⟨r,w',h1,h2⟩
 ·exact .inl (h.mono hr)
 ·exact .inr ⟨r,w',h1,hr _ _ h2⟩
theorem YieldR.mono {b:Nat}{rs:List Value}{R R':Value→World→Prop}(h:YieldR X b rs w R) (hr:∀r w',R r w'→R' r w'):YieldR X b rs w R':=by
 obtain⟨fn,tm,as,bd,h1,h2⟩:=h
 exact⟨fn,tm,as,bd,h1,h2.mono fun e w' ⟨r,q1,q2⟩=>⟨r,q1,hr _ _ q2⟩⟩
def CalleeOK (X:Ctx) (G:Gh):Callee→List IV→List Value→World→(Value→World→Prop)→Prop
 |.f f,args,rs,w,R=>Reach X f rs w R∧((∃id,IV.yld id∈args)→Enters X f rs w R)
 |.y id,_,rs,w,R=>∀b,G.bx id=some b→YieldR X b rs w R
def CallOK (X:Ctx) (call:CallT):Prop:=∀c args m v m',call c args m=some (v,m')→∀G w rs,MR X G m w→WF X G w→(∀k,G.lb k=none)→VRs G args rs→CalleeOK X G c args rs w (After X G w m' v)
theorem hideIds_bx (h:SR X N G st a w):∀(l:List Arg) (id:Nat),id∈hideIds st.env l→∃b,G.bx id=some b
 |[],id,hm=>by simp[hideIds] at hm
 |.c _::l,id,hm=>hideIds_bx h l id (by simpa[hideIds] using hm)
 |.t i::l,id,hm=>by
  simp only[hideIds] at hm
  split at hm
  ·rename_i id' o c e
   rcases List.mem_cons.1 hm with rfl | hm
   ·have hv:=(h.env i _ _ e).1
    generalize a.tmps.getD i undef=q at hv
    cases hv with
    |pB _ _ b hb=>exact⟨b,hb⟩
   ·exact hideIds_bx h l id hm
  ·exact hideIds_bx h l id hm
theorem refsAll_append:∀(xs ys:List IV) (k:Nat),refsAll (xs++ys)=some k→(∃i,refsAll xs=some i)∧∃j,refsAll ys=some j
 |[],ys,k,h=>⟨⟨0,rfl⟩,k,h⟩
 |x::xs,ys,k,h=>by
  simp only[List.cons_append,refsAll] at h
  split at h
  ·rename_i p q e1 e2
   obtain⟨⟨i,hi⟩,h2⟩:=refsAll_append xs ys q e2
   exact⟨⟨Nat.max p i,by simp[refsAll,e1,hi]⟩,h2⟩
  ·cases h
theorem args_vr:∀(args:List IV) (rs:List Value) (k:Nat),refsAll (args.flatMap IV.cells)=some k→SVs G args rs→VRs G args rs
 |[],rs,k,_,hs=>by rw[hs.nil_inv];exact VRs.nil
 |x::args,rs,k,h,hs=>by
  obtain⟨r,rs',rfl,h1,h2⟩:=hs.cons_inv
  simp only[List.flatMap_cons] at h
  obtain⟨⟨i,hi⟩,j,hj⟩:=refsAll_append _ _ _ h
  exact VRs.cons (h1.vr (refsAll_notU hi).2) (args_vr args rs' j hj h2)
theorem callI_sound (h:SR X N G st a w) {call:CallT}(hc:CallOK X call) {c:Callee}{args:List IV}{hide:List Arg}{v:IV}{cp:Cap}{st':St}(hr:callI call st c args hide=some (v,cp,st')) {rs:List Value}(ha:SVs G args rs) :
  CalleeOK X G c args rs w (fun r w'=>∃G',OR X N G w st' a v cp r G' w'):=by
 unfold callI at hr
 simp only[frc_eq] at hr
 split at hr
 ·rename_i k _ e0 e
  cases e
  split at hr
  ·cases hr
  ·rename_i m1 hm1
   split at hr
   ·cases hr
   ·rename_i v2 m2 hcall
    split at hr
    ·rename_i m3 lk hm3 e2
     cases e2
     simp only[Option.some.injEq,Prod.mk.injEq] at hr
     obtain⟨rfl,rfl,rfl⟩:=hr
     have hb:=hideIds_bx h hide
     have hva:VRs (G.callee (hideIds st.env hide) w.heap.size) args rs:=VRs.mono (G:=G) (G':=G.callee _ _) (fun _ _ _ e=>e) (fun _ _ e=>e) (args_vr args rs k e0 ha)
     have key:=hc c args m1 v2 m2 hcall (G.callee (hideIds st.env hide) w.heap.size) w rs (h.mr.callee hm1 hb) (h.wf.callee _ (Nat.le_refl _)) (fun _=>rfl) hva
     have fin:∀r w',After X (G.callee (hideIds st.env hide) w.heap.size) w m2 v2 r w'→∃G',OR X N G w { st with m:=m3,lk:=lkC (fun i=>!(hideIds st.env hide).contains i) st.lk } a v2 .any r G' w':=by
      rintro r w' ⟨G',k1,k2,k3,k4⟩
      obtain⟨q1,q2⟩:=back_sound h hb hm1 hm3 k1 k2 k4
      exact⟨_,q1,SV.of (VR.mono (G:=G') (G':=G.back _ G') (fun _ _ _ e=>e) (fun _ _ e=>e) k3),q2,fun _ e=>by cases e⟩
     cases c with
     |f f=>exact⟨Reach.mono key.1 fin,fun q=>Enters.mono (key.2 q) fin⟩
     |y id=>exact fun b hb'=>YieldR.mono (key b hb') fin
    ·cases hr
 ·cases hr
section
variable {ro:Option Nat}{K:Act→World→Prop}{Q:Exit→Act→World→Prop}{o:Oper}
theorem wpIn_of_run (hnd:∀c,o.op ≠ .defer c) {r:Value}{w':World}(h:OpRun X.P o a.eval w r w') (hk:K (a.put o.dst r) w'):o.wpIn (Fr ro) 0 X.P a w K Q:=by
 refine⟨fun _ _=>trivial,?_⟩
 rw[Oper.semAt_eq _ _ _ hnd]
 rcases h with h | ⟨h,rfl⟩
 ·rw[h];exact hk
 ·rw[h];exact hk
theorem call_sem (ρ:Operand→Value) {g:Operand}{xs:Array Operand}{ts:Array TypeId}(ho:o.op=.call ⟨.value g,xs,ts⟩) {fv:Fn}{fi ca:Array Value}(hg:ρ g=.func fv fi ca) :
  execOp ρ o=invoke (.fn fv ca) (fi++xs.map ρ):=by
 simp only[execOp,ho,resolve,hg,Deferred.ofValue]
 rfl
theorem wpIn_of_reach {g:Operand}{xs:Array Operand}{ts:Array TypeId}(ho:o.op=.call ⟨.value g,xs,ts⟩) {f:FuncId}{fi ca:List Value}(hg:a.eval g=.func (.func f) ⟨fi⟩ ⟨ca⟩) {R:Value→World→Prop}
  (h:Reach X f (fi++xs.toList.map a.eval++ca) w R) (hk:∀r w',R r w'→K (a.put o.dst r) w'):o.wpIn (Fr ro) 0 X.P a w K Q:=by
 have hargs:(⟨fi⟩++xs.map a.eval++⟨ca⟩:Array Value)=⟨fi++xs.toList.map a.eval++ca⟩:=by
  apply Array.ext'
  simp
 refine⟨fun _ _=>trivial,?_⟩
 rw[Oper.semAt_eq _ _ _ (fun c e=>by rw[ho] at e;cases e),call_sem _ ho hg]
 simp only[invoke,hargs]
 rcases h with ⟨h1,h2⟩ | ⟨r,w',h1,h2⟩
 ·rw[h1]
  refine⟨fun e=>by simp[Fr,Fence.wide] at e,?_⟩
  refine CallsIn.mono (F:=Fence.wide) h2 ?_
  rintro e w' ⟨r,rfl,hr⟩
  exact hk r w' hr
 ·rw[h1]
  exact hk r w' h2
theorem wpIn_of_yield {g:Operand}{xs:Array Operand}{ts:Array TypeId}(ho:o.op=.call ⟨.value g,xs,ts⟩) {b:Nat}(hg:a.eval g=.func (.yield b) #[] #[]) {R:Value→World→Prop}
  (h:YieldR X b (xs.toList.map a.eval) w R) (hk:∀r w',R r w'→K (a.put o.dst r) w'):o.wpIn (Fr ro) 0 X.P a w K Q:=by
 obtain⟨fn,tm,as,bd,h1,h2⟩:=h
 have hargs:(#[]++xs.map a.eval:Array Value)=⟨xs.toList.map a.eval⟩:=by
  apply Array.ext'
  simp
 refine⟨fun _ _=>trivial,?_⟩
 rw[Oper.semAt_eq _ _ _ (fun c e=>by rw[ho] at e;cases e),call_sem _ ho hg]
 simp only[invoke,hargs,h1]
 refine⟨fun e=>by simp[Fr,Fence.wide] at e,?_⟩
 refine RoundIn.mono (F:=Fence.wide) h2 ?_
 rintro e w' ⟨r,rfl,hr⟩
 exact hk r w' hr
end
def Goes (X:Ctx) (N:Nat) (G:Gh) (w:World) (df:List Deferred) (st':St) (K:Act→World→Prop):Prop :=
 ∀G' a' w',SR X N G' st' a' w'→Step G w G' w'→a'.defers=df→K a' w'
theorem KR.notDefer {P:Program}{rows:Nat→Option (List IV)}{op:Op}{k:IK}(h:KR P rows op k):∀c,op ≠ .defer c:=by
 intro c e
 subst e
 cases h with
 |p _ _ _ _ hp _=>cases hp
theorem finish_op (h:SR X N G st a w) {o:IOp}{st1 st2 st':St}{v:IV}{c:Cap}(hlt:∀d,o.dst=some d→d<N) {r:Value}{G1:Gh}{w1:World}(hor:OR X N G w st1 a v c r G1 w1) (hp:st1.put o.dst v c=some st2)
  (hlk:∀l,o.k.link st.env=some l→LinkV G1 a w1 r l)
  (hst:(match o.dst,o.k.link st.env with | some d,some l=>if l=.slot d then some st2 else some { st2 with lk:=(d,l)::st2.lk } | _,_=>some st2)=some st') :
  ∃G2,SR X N G2 st' (a.put o.dst r) w1∧Step G w G2 w1:=by
 obtain⟨G2,h1,h2,h3,h4,_⟩:=put_sound hor hlt hp
 refine⟨G2,?_,h2⟩
 split at hst
 ·rename_i d l ed el
  split at hst
  ·simp only[Option.some.injEq] at hst;subst hst;exact h1
  ·rename_i hne
   simp only[Option.some.injEq] at hst
   subst hst
   refine { size:=h1.size,env:=h1.env,own:=h1.own,lk:=?_,lb:=h1.lb,lbown:=h1.lbown,lbdom:=h1.lbdom,mr:=h1.mr,wf:=h1.wf }
   intro i l' hm
   rcases List.mem_cons.1 hm with e | hm
   ·cases e
    have hv:=hlk l el
    have hd:d<a.tmps.size:=by rw[hor.sr.size];exact hlt d ed
    rw[ed]
    cases l with
    |slot j =>
     simp only[LinkOK]
     rw[put_getD_same hd,put_getD_ne (fun e=>hne (by rw[e]))]
     exact hv
    |L k off=>simp only[LinkOK];rw[put_getD_same hd];obtain⟨b,e1,e2⟩:=hv;exact⟨b,by rw[h3];exact e1,e2⟩
    |B k off=>simp only[LinkOK];rw[put_getD_same hd];obtain⟨b,e1,e2⟩:=hv;exact⟨b,by rw[h4];exact e1,e2⟩
    |marked =>
     simp only[LinkOK]
     rw[put_getD_same hd]
     exact fun b o sp len cap e=>(hv b o sp len cap e).same (h2.old.trans hor.step.old.symm)
   ·exact h1.lk i l' hm
 ·simp only[Option.some.injEq] at hst;subst hst;exact h1
theorem op_sound (h:SR X N G st a w) {call:CallT}(hc:CallOK X call) {ro:Option Nat}{K:Act→World→Prop}{Q:Exit→Act→World→Prop}{ops:Array Oper}{o:Oper}{io:IOp}(hO:OpR X.P X.rows N ops o io)
  {st':St}(hr:io.run call st=some st') (hK:Goes X N G w a.defers st' K) :
  if Region.wanted o (yielded ops a.tmps) then o.wpIn (Fr ro) 0 X.P a w K Q else (∀f,o.about X.P w a.eval=some f→(Fr ro).fn f)∧K (a.put o.dst undef) w:=by
 have hnd:=hO.k.notDefer
 have hrun:(match io.k.run call st with
   |some (v,c,st')=>match st'.put io.dst v c with
    |some st'=>match io.dst,io.k.link st.env with
     |some d,some l=>if l=.slot d then some st' else some { st' with lk:=(d,l)::st'.lk }
     |_,_=>some st'
    |none=>none
   |none=>none)=some st'→o.wpIn (Fr ro) 0 X.P a w K Q:=by
  intro hr
  split at hr
  ·rename_i v c st1 e1
   split at hr
   ·rename_i st2 e2
    cases hn:io.k.calls with
    |false =>
     obtain⟨r,w1,G1,k1,k2,k3⟩:=ik_sound h call hO.k hn e1
     obtain⟨G2,k4,k5⟩:=finish_op h hO.lt k2 e2 k3 hr
     refine wpIn_of_run hnd k1 ?_
     rw[hO.dst]
     exact hK G2 _ w1 k4 k5 (by simp)
    |true =>
     have fin:∀r w1,(∃G1,OR X N G w st1 a v c r G1 w1)→K (a.put o.dst r) w1:=by
      rintro r w1 ⟨G1,k2⟩
      have hnl:∀l,io.k.link st.env≠some l:=by
       intro l e
       cases hk:io.k<;>rw[hk] at hn e<;>first | (simp[IK.calls] at hn;done) | (simp[IK.link] at e)
      obtain⟨G2,k4,k5⟩:=finish_op h hO.lt k2 e2 (fun l e=>absurd e (hnl l)) hr
      rw[hO.dst]
      exact hK G2 _ w1 k4 k5 (by simp)
     have hk:=hO.k
     generalize hop:o.op=op at hk
     generalize hik:io.k=k at hk hn e1
     cases hk with
     |callF f xs ts as hide ha =>
      simp only[IK.run] at e1
      split at e1
      ·rename_i vs e3
       have hs:=SVs.of h ha e3
       have:=callI_sound h hc e1 hs
       exact wpIn_of_reach (fi:=[]) (ca:=[]) hop rfl (by simpa using this.1) fin
      ·cases e1
     |callV g g' xs ts as hide hg ha =>
      simp only[IK.run] at e1
      split at e1
      ·rename_i vs e3
       have hs:=SVs.of h ha e3
       split at e1
       ·rename_i f fs cs e4
        have hgv:=SV.vr (h.rd hg e4) rfl
        generalize hq:a.eval g=q at hgv
        cases hgv with
        |func _ _ _ rf rc hf hcl k1 k2 =>
         have h1:SVs G fs rf:=⟨hf,fun i v r q1 q2=>by
          obtain⟨x1,rfl⟩:=List.getElem?_eq_some_iff.1 q1
          obtain⟨x2,rfl⟩:=List.getElem?_eq_some_iff.1 q2
          exact SV.of (k1 i x1 x2)⟩
         have h2:SVs G cs rc:=⟨hcl,fun i v r q1 q2=>by
          obtain⟨x1,rfl⟩:=List.getElem?_eq_some_iff.1 q1
          obtain⟨x2,rfl⟩:=List.getElem?_eq_some_iff.1 q2
          exact SV.of (k2 i x1 x2)⟩
         have happ:∀{u v:List IV}{x y:List Value},SVs G u x→SVs G v y→SVs G (u++v) (x++y):=by
          intro u v x y p q
          refine⟨by simp[p.1,q.1],fun i v r e5 e6=>?_⟩
          rw[List.getElem?_append] at e5 e6
          rw[p.1] at e6
          split at e5
          ·rename_i q1;rw[if_pos q1] at e6;exact p.2 i v r e5 e6
          ·rename_i q1;rw[if_neg q1] at e6;exact q.2 _ v r e5 e6
         exact wpIn_of_reach hop hq (callI_sound h hc e1 (happ (happ h1 hs) h2)).1 fin
       ·rename_i id e4
        have hgv:=SV.vr (h.rd hg e4) rfl
        generalize hq:a.eval g=q at hgv
        cases hgv with
        |yld _ b hb=>exact wpIn_of_yield hop hq (callI_sound h hc e1 hs b hb) fin
       ·cases e1
      ·cases e1
     |_=>simp[IK.calls] at hn
   ·cases hr
  ·cases hr
 have hg:=hO.guard
 replace hr:=IOp.run_run0 hr
 unfold IOp.run0 gate at hr
 cases hgi:io.guard with
 |none =>
  rw[hgi] at hg hr
  cases hgo:o.guard with
  |some p=>rw[hgo] at hg;exact hg.elim
  |none =>
   have:Region.wanted o (yielded ops a.tmps)=true:=by simp[Region.wanted,hgo]
   rw[if_pos this]
   exact hrun hr
 |some p =>
  obtain⟨s,want⟩:=p
  rw[hgi] at hg hr
  cases hgo:o.guard with
  |none=>rw[hgo] at hg;exact hg.elim
  |some q =>
   obtain⟨j,want'⟩:=q
   rw[hgo] at hg
   obtain⟨rfl,hj⟩:=hg
   simp only at hr
   have hyield:∀v c,look st.env s=some (v,c)→(v=.bool want'→yielded ops a.tmps j=some want')∧(v=.bool (!want')→yielded ops a.tmps j=some (!want'))∧((∃x,v=.tup x)→yielded ops a.tmps j=none):=by
    intro v c e
    obtain⟨q1,q2⟩:=h.env s v c e
    have hsz:s<a.tmps.size:=by rw[h.size];exact q2
    have hgd:a.tmps[s]?=some (a.tmps.getD s undef):=by
     rw[Array.getD_eq_getD_getElem?,Array.getElem?_eq_getElem hsz];rfl
    have hy:yielded ops a.tmps j=match (a.tmps.getD s undef) with | .bool b=>some b | _=>none:=by
     unfold yielded
     rw[hj]
     simp only[Option.bind_some,hgd]
     cases a.tmps.getD s undef<;>rfl
    refine⟨?_,?_,?_⟩
    ·rintro rfl;rw[hy,q1.bool_inv]
    ·rintro rfl;rw[hy,q1.bool_inv]
    ·rintro ⟨x,rfl⟩
     have:=SV.vr q1 rfl
     obtain⟨rc,e2,_⟩:=this.tup_inv
     rw[hy,e2]
   have hw:∀b,Region.wanted o (yielded ops a.tmps)=b↔(yielded ops a.tmps j==some want')=b:=by intro b;simp[Region.wanted,hgo]
   have skip:st.put io.dst (.tup []) .any=some st'→(∀f,o.about X.P w a.eval=some f→(Fr ro).fn f)∧K (a.put o.dst undef) w:=by
    intro hp
    refine⟨fun _ _=>trivial,?_⟩
    obtain⟨G2,k1,k2,_⟩:=put_sound (OR.same h (SV.of (VR.tup' VRs.nil):SV G (.tup []) undef)) hO.lt hp
    rw[hO.dst]
    exact hK G2 _ w k1 k2 (by simp)
   cases hl:look st.env s with
   |none=>rw[hl] at hr;cases hr
   |some p =>
    obtain⟨v,c⟩:=p
    obtain⟨y1,y2,y3⟩:=hyield v c hl
    rw[hl] at hr
    cases v<;>first | (simp only at hr;cases hr;done) | skip
    ·rename_i b
     by_cases hb:b=want'
     ·subst hb
      have:=y1 rfl
      rw[if_pos ((hw true).2 (by simp[this]))]
      simp only[beq_self_eq_true] at hr
      exact hrun hr
     ·have hb':b=!want':=by cases b<;>cases want'<;>simp_all
      subst hb'
      have:=y2 rfl
      have hf:¬Region.wanted o (yielded ops a.tmps)=true:=by
       rw[hw true,this];cases want'<;>simp
      rw[if_neg hf]
      have hbe:((!want')==want')=false:=by cases want'<;>rfl
      simp only[hbe] at hr
      exact skip hr
    ·have:=y3 ⟨_,rfl⟩
     have hf:¬Region.wanted o (yielded ops a.tmps)=true:=by rw[hw true,this];simp
     rw[if_neg hf]
     exact skip (by simpa using hr)
end Go.Idl
namespace Go.Idl
open Classical
variable {X:Ctx}{N:Nat}{G:Gh}{st:St}{a:Act}{w:World}
theorem Goes.step {df:List Deferred}{st':St}{K:Act→World→Prop}{G1:Gh}{w1:World}(h:Goes X N G w df st' K) (s:Step G w G1 w1):Goes X N G1 w1 df st' K :=
 fun G' a' w' h1 h2 h3=>h G' a' w' h1 (s.trans h2) h3
theorem ops_sound {call:CallT}(hc:CallOK X call) {ro:Option Nat}{Q:Exit→Act→World→Prop}{ops:Array Oper}:∀(os:List Oper) (is:List IOp) (k:Nat) (G:Gh) (st:St) (a:Act) (w:World) (st':St),
  OpsR X.P X.rows N ops os is→(∀j o,os[j]?=some o→ops[k+j]?=some o)→SR X N G st a w→runOps call is st=some st'→Goes X N G w a.defers st' (Q .normal) →
  wpOpsIn (Fr ro) 0 X.P ops Q (List.range' k os.length) a w
 |[],is,k,G,st,a,w,st',hO,hj,h,hr,hQ=>by
  cases hO
  simp only[runOps,Option.some.injEq] at hr
  subst hr
  exact hQ G a w h (Step.refl _ _) rfl
 |o::os,is,k,G,st,a,w,st',hO,hj,h,hr,hQ=>by
  cases hO with
  |cons ho hs =>
   rename_i io is
   simp only[runOps] at hr
   split at hr
   ·rename_i st1 e1
    have hk:ops[k]?=some o:=by simpa using hj 0 o (by simp)
    simp only[List.length_cons,List.range'_succ,wpOpsIn,hk]
    refine op_sound h hc ho e1 ?_
    intro G1 a1 w1 h1 s1 d1
    refine ops_sound hc os is (k+1) G1 st1 a1 w1 st' hs (fun j o e=>?_) h1 hr ?_
    ·have:=hj (j+1) o (by simpa using e)
     rw[←this];congr 1;omega
    ·rw[d1];exact hQ.step s1
   ·cases hr
theorem region_sound {call:CallT}(hc:CallOK X call) {ro:Option Nat}{Q:Exit→Act→World→Prop}{id:Nat}{ops:Array Oper}{is:List IOp}(hO:OpsR X.P X.rows N ops ops.toList is) (h:SR X N G st a w) {st':St}
  (hr:runOps call is st=some st') (hQ:Goes X N G w a.defers st' (Q .normal)):(Code.region id ops false).wpIn (Fr ro) 0 X.P Q a w:=by
 refine wpIn_region ?_
 rw[List.range_eq_range',←Array.length_toList]
 exact ops_sound hc ops.toList is 0 G st a w st' hO (fun j o e=>by simpa using e) h hr hQ
def Df (base:Nat) (G:Gh) (df:List Deferred) (w:World):Prop :=
 ∃rs:List Nat,df=rs.map (fun r=>{ target:=.collected r,args:=#[]})∧rs.Nodup∧∀r∈rs,base≤r∧w.heap[r]?=some (.deferred (some []))∧¬G.opn r
theorem Df.step {base:Nat}{df:List Deferred}{G':Gh}{w':World}(h:Df base G df w) (s:Step G w G' w'):Df base G' df w':=by
 obtain⟨rs,h1,h2,h3⟩:=h
 refine⟨rs,h1,h2,fun r hr=>?_⟩
 obtain⟨k1,k2,k3⟩:=h3 r hr
 exact⟨k1,s.other r _ k2 k3 (fun c t f e=>by cases e),fun q=>k3 (s.boxNew r (heap_lt k2) q)⟩
def ROK (ro:Option Nat) (w:World):Prop:=∀l,ro=some l→∃L,w.heap[l]?=some (Obj.loop L)
theorem ROK.step {ro:Option Nat}{G':Gh}{w':World}(h:ROK ro w) (s:Step G w G' w'):ROK ro w':=fun l e=>let ⟨L,hL⟩:=h l e;s.loop l L hL
def exOf:Ex→Exit
 |.normal=>.normal
 |.exit i=>.exit i
 |.ret=>.ret
structure At (X:Ctx) (N:Nat) (ro:Option Nat) (base:Nat) (G:Gh) (st:St) (a:Act) (w:World):Prop where
 sr:SR X N G st a w
 rok:ROK ro w
 df:Df base G a.defers w
 le:base≤w.heap.size
def Then (X:Ctx) (N:Nat) (ro:Option Nat) (base:Nat) (G:Gh) (w:World) (e:Ex) (st':St) (Q:Exit→Act→World→Prop):Prop :=
 ∀G' a' w',At X N ro base G' st' a' w'→Step G w G' w'→Q (exOf e) a' w'
theorem Then.step {ro:Option Nat}{base:Nat}{e:Ex}{st':St}{Q:Exit→Act→World→Prop}{G1:Gh}{w1:World}(h:Then X N ro base G w e st' Q) (s:Step G w G1 w1):Then X N ro base G1 w1 e st' Q :=
 fun G' a' w' h1 h2=>h G' a' w' h1 (s.trans h2)
theorem At.goes {ro:Option Nat}{base:Nat}{st':St}{Q:Exit→Act→World→Prop}(h:At X N ro base G st a w) (hQ:Then X N ro base G w .normal st' Q):Goes X N G w a.defers st' (Q .normal) :=
 fun G' a' w' h1 h2 h3=>hQ G' a' w' ⟨h1,h.rok.step h2,by rw[h3];exact h.df.step h2,Nat.le_trans h.le h2.size⟩ h2
def DrawOK (X:Ctx):Prop:=∀(call:CallT),CallOK X call→CallKeeps call→∀(N:Nat) (ro:Option Nat) (Q:Exit→Act→World→Prop) (id:Nat) (ops:Array Oper) (is:List IOp) (pre:List Nat) (G:Gh) (st:St) (a:Act) (w:World) (st':St),
 OpsR X.P X.rows N ops ops.toList is→X.D ops is pre→SR X N G st a w→uqB st.lk=true→runOps call is st=some st'→Goes X N G w a.defers st' (Q .normal)→(Code.region id ops true).wpIn (Fr ro) 0 X.P Q a w
def LoopOK (X:Ctx) (loop:LoopT):Prop:=∃m,∀hd b st e st',loop hd b st=some (e,st')→∀(c:Code) (N:Nat) (ro:Option Nat) (base:Nat) (Q:Exit→Act→World→Prop) (G:Gh) (a:Act) (w:World),
 CR X.P X.rows N X.T X.D c b→At X N ro base G st a w→Then X N ro base G w e st' Q→Code.roundsIn (Fr ro) 0 X.P c Q m a w
theorem SR.act {a':Act}(h:SR X N G st a w) (e:a'.tmps=a.tmps):SR X N G st a' w where
 size:=by rw[e];exact h.size
 env:=by rw[e];exact h.env
 own:=by rw[e];exact h.own
 lk i l hm:=by
  have:=h.lk i l hm
  cases l<;>simp only[LinkOK,e] at this ⊢<;>exact this
 lb:=h.lb
 lbown:=h.lbown
 lbdom:=h.lbdom
 mr:=h.mr
 wf:=h.wf
theorem SR.links {lk:List (Nat×Loc)}(h:SR X N G st a w) (hs:∀p∈lk,p∈st.lk):SR X N G { st with lk } a w where
 size:=h.size
 env:=h.env
 own:=h.own
 lk i l hm:=h.lk i l (hs _ hm)
 lb:=h.lb
 lbown:=h.lbown
 lbdom:=h.lbdom
 mr:=h.mr
 wf:=h.wf
theorem SR.dropB (h:SR X N G st a w) {id:Nat}{b:Nat}{ro o:Obj}{m':IM}(hb:G.bx id=some b) (hr:w.heap[b]?=some ro) (hn:notCells ro) (ho:notCells o)
  (hm:st.m.put id .none=some m'):SR X N G { st with m:=m' } a (World.putObj w b o):=by
 obtain⟨hsz,_,hget⟩:=get_put hm
 have hlt:=h.mr.dom id b hb
 have hget':∀j,m'.get j=if id=j then .none else st.m.get j:=fun j=>by rw[hget];simp[hlt]
 refine { size:=h.size,env:=h.env,own:=h.own,lk:=fun i l hm=>(h.lk i l hm).putObj hr hn ho,lb:=?_,lbown:=?_,lbdom:=h.lbdom,mr:=?_,wf:=h.wf.putObj hr hn ho }
 ·intro k' hn'
  obtain⟨b',ro',e1,e2,e3⟩:=h.lb k' hn'
  exact⟨b',ro',e1,by rw[putObj_other (fun q=>by subst q;exact h.wf.disj _ _ _ hb e1)];exact e2,e3⟩
 ·intro k' cs cp off sz e1 e2 b' r e3 e4
  rw[putObj_cell hr hn ho] at e4
  exact h.lbown k' cs cp off sz e1 e2 b' r e3 e4
 ·refine { bx:=?_,own:=?_,dom:=fun j b' e=>by rw[hsz];exact h.mr.dom j b' e,hid:=fun j e=>?_ }
  ·intro j hn'
   simp only[hget'] at hn' ⊢
   split at hn'
   ·exact absurd rfl hn'
   ·rename_i q
    rw[if_neg q]
    obtain⟨b',ro',e1,e2,e3⟩:=h.mr.bx j hn'
    exact⟨b',ro',e1,by rw[putObj_other (fun e=>q (by subst e;exact h.wf.inj _ _ _ hb e1))];exact e2,e3⟩
  ·intro j cs cp off sz e1 e2 b' r e3 e4
   simp only[hget'] at e1
   rw[putObj_cell hr hn ho] at e4
   split at e1
   ·cases e1
   ·exact h.mr.own j cs cp off sz e1 e2 b' r e3 e4
  ·obtain⟨q1,q2⟩:=h.mr.hid j e
   refine⟨by rw[hsz];exact q1,?_⟩
   rw[hget']
   split
   ·rfl
   ·exact q2
end Go.Idl
namespace Go.Idl
open Classical
variable {X:Ctx}{N:Nat}{G:Gh}{st:St}{a:Act}{w:World}
theorem noL_look:∀(e:Env) (i:Nat) (v:IV) (c:Cap),look (noL e) i=some (v,c)→c=.any∧∃v0 c0,look e i=some (v0,c0)∧((v=v0∧v0.isL=false)∨v=.undef)
 |[],i,v,c,h=>by cases h
 |(j,u,d)::e,i,v,c,h=>by
  rw[noL,look_cons] at h
  rw[look_cons]
  split at h
  ·rename_i q
   rw[if_pos q]
   simp only[Option.some.injEq,Prod.mk.injEq] at h
   obtain⟨h1,rfl⟩:=h
   refine⟨rfl,u,d,rfl,?_⟩
   split at h1
   ·rename_i k hk;exact .inl ⟨h1.symm,refsDeep_notL hk⟩
   ·exact .inr h1.symm
  ·rename_i q
   rw[if_neg q]
   exact noL_look e i v c h
theorem bool_of_rd (h:SR X N G st a w) {c:Operand}{c':Arg}(hc:ArgR X.rows c c') {b:Bool}(e:c'.rd st.env=some (.bool b)):a.eval c=.bool b:=(h.rd hc e).bool_inv
theorem run_enterLoop {P:Program}{fn:FuncId}{tmps:Array Value}{ps:Array Tmp}{as body:Code}{ro:Option Nat}(hro:ROK ro w) :
  ∃L:Loop,∃w0:World,∃mark:List Deferred,L.state=.ready∧L.pending=none∧L.tmps=tmps∧L.params=ps∧L.assign=as∧L.body=body ∧
   (Instr.enterLoop fn tmps ps as body ro).run P w=.ok (w0.heap.size,mark) (w0.alloc (.loop L)) ∧
   ((ro=none∧w0=w.alloc (.deferred (some []))∧mark=[{ target:=.collected w.heap.size,args:=#[]}])∨(w0=w∧mark=[])):=by
 cases ro with
 |none =>
  refine⟨{ state:=.ready,pending:=none,fn:=fn,tmps:=tmps,params:=ps,assign:=as,body:=body,defers:=w.heap.size },w.alloc (.deferred (some [])),_,rfl,rfl,rfl,rfl,rfl,rfl,?_,.inl ⟨rfl,rfl,rfl⟩⟩
  simp[Instr.enterLoop,run_newObj]
 |some l =>
  obtain⟨L0,hL⟩:=hro l rfl
  have hg:=run_getObj' (P:=P) hL trivial
  refine⟨{ state:=.ready,pending:=none,fn:=fn,tmps:=tmps,params:=ps,assign:=as,body:=body,defers:=L0.defers },w,_,rfl,rfl,rfl,rfl,rfl,rfl,?_,.inr ⟨rfl,rfl⟩⟩
  simp[Instr.enterLoop,Instr.getLoop,hg,run_newObj]
theorem stepR_scope {P:Program}{b:Frame}{k:List Item}{cs:List Frame}{c:Code}:step P (lone (b.atR a (.code (.scope c)::k)) cs w)=.next (lone (b.atR a (.code c :: .inScope c::k)) cs w) :=
 step_lone_go (by simp[stepG,stepG.exec,Frame.atR])
theorem stepR_inScope {P:Program}{b:Frame}{k:List Item}{cs:List Frame}{c:Code}:step P (lone (b.atR a (.inScope c::k)) cs w)=.next (lone (b.atR a k) cs w) :=
 step_lone_go (by simp[stepG,stepG.exec,Frame.atR])
theorem wpIn_scope {F:Fence}{n:Nat}{P:Program}{Q:Exit→Act→World→Prop}{c:Code}(h:c.wpIn F n P (Exit.noGoto Q) a w):(Code.scope c).wpIn F n P Q a w:=by
 intro b k cs hro hb hr
 have h0:(lone (b.atR a (.code (.scope c)::k)) cs w).fenced P F:=fenced_calm hb hr rfl
 obtain⟨e,a₁,w₁,hq,harr⟩:=h b (.inScope c::k) cs hro hb hr
 cases e with
 |normal=>exact⟨.normal,a₁,w₁,hq,.head h0 stepR_scope (StepsIn.trans harr (.one (fenced_calm hb hr rfl) stepR_inScope))⟩
 |exit id =>
  have hx:exitTo id (.inScope c::k)=exitTo id k:=by simp[exitTo]
  exact⟨.exit id,a₁,w₁,hq,fun k' hk=>.head h0 stepR_scope (harr.1 k' (by rw[hx];exact hk)),
   fun hr' hk=>let ⟨k₁,h1,h2⟩:=harr.2 hr' (by rw[hx];exact hk);⟨k₁,h1,.head h0 stepR_scope h2⟩⟩
 |goto l=>exact hq.elim
 |ret=>exact⟨_,a₁,w₁,hq,.of_steps (.one h0 stepR_scope) harr⟩
 |panic ch=>exact⟨_,a₁,w₁,hq,.of_steps (.one h0 stepR_scope) harr⟩
 |outgrown=>exact⟨_,a₁,w₁,hq,.of_steps (.one h0 stepR_scope) harr⟩
theorem func_inv {f:FuncId}{fs cs:List IV}{r:Value}(h:SV G (.func f fs cs) r):∃rf rc,r=.func (.func f) ⟨rf⟩ ⟨rc⟩∧VRs G fs rf∧VRs G cs rc:=by
 cases SV.vr h rfl with
 |func _ _ _ rf rc hf hc h1 h2=>exact⟨rf,rc,rfl,⟨hf,h1⟩,⟨hc,h2⟩⟩
theorem code_sound (hD:DrawOK X) {call:CallT}(hc:CallOK X call) (hk:CallKeeps call) {loop:LoopT}(hl:LoopOK X loop) {code:Code}{ic:ICode}(hR:CR X.P X.rows N X.T X.D code ic) :
  ∀{ro:Option Nat}{base:Nat}{Q:Exit→Act→World→Prop}{G:Gh}{st:St}{a:Act}{w:World}{e:Ex}{st':St},At X N ro base G st a w→ic.run call loop st=some (e,st')→Then X N ro base G w e st' Q→code.wpIn (Fr ro) 0 X.P Q a w:=by
 induction hR with
 |skip =>
  intro ro base Q G st a w e st' h hr hQ
  simp only[ICode.run,Option.some.injEq,Prod.mk.injEq] at hr
  obtain⟨rfl,rfl⟩:=hr
  exact wpIn_skip (hQ G a w h (Step.refl _ _))
 |label l =>
  intro ro base Q G st a w e st' h hr hQ
  simp only[ICode.run,Option.some.injEq,Prod.mk.injEq] at hr
  obtain⟨rfl,rfl⟩:=hr
  exact wpIn_label (hQ G a w h (Step.refl _ _))
 |ops id ops is hO =>
  intro ro base Q G st a w e st' h hr hQ
  simp only[ICode.run] at hr
  split at hr
  ·rename_i st1 e1
   simp only[Option.some.injEq,Prod.mk.injEq] at hr
   obtain⟨rfl,rfl⟩:=hr
   exact region_sound hc hO h.sr e1 (h.goes hQ)
  ·cases hr
 |draw id ops is pre hO hd =>
  intro ro base Q G st a w e st' h hr hQ
  simp only[ICode.run] at hr
  split at hr
  ·rename_i eu
   split at hr
   ·rename_i st1 e1
    simp only[Option.some.injEq,Prod.mk.injEq] at hr
    obtain⟨rfl,rfl⟩:=hr
    exact hD call hc hk _ ro Q id ops is pre G st a w _ hO hd h.sr eu e1 (h.goes hQ)
   ·cases hr
  ·cases hr
 |seq h1 h2 ih1 ih2 =>
  intro ro base Q G st a w e st' h hr hQ
  simp only[ICode.run] at hr
  refine wpIn_seq ?_
  split at hr
  ·rename_i st1 e1
   refine ih1 h e1 ?_
   intro G1 a1 w1 k1 s1
   exact ih2 k1 hr (hQ.step s1)
  ·rename_i hn
   refine ih1 h hr ?_
   intro G1 a1 w1 k1 s1
   have:=hQ G1 a1 w1 k1 s1
   cases e with
   |normal=>exact absurd hr (fun q=>hn st' q)
   |exit i=>exact this
   |ret=>exact this
 |cond hcd h1 h2 ih1 ih2 =>
  intro ro base Q G st a w e st' h hr hQ
  simp only[ICode.run] at hr
  split at hr
  ·rename_i e1
   exact wpIn_cond_true (bool_of_rd h.sr hcd e1) (ih1 h hr hQ)
  ·rename_i e1
   exact wpIn_cond_false (bool_of_rd h.sr hcd e1) (ih2 h hr hQ)
  ·cases hr
 |block h1 ih1 =>
  rename_i id c x
  intro ro base Q G st a w e st' h hr hQ
  simp only[ICode.run] at hr
  refine wpIn_block ?_
  split at hr
  ·rename_i i st1 e1
   refine ih1 h e1 ?_
   intro G1 a1 w1 k1 s1
   split at hr
   ·rename_i hi
    simp only[Option.some.injEq,Prod.mk.injEq] at hr
    obtain⟨rfl,rfl⟩:=hr
    simp only[exOf,Exit.inBlock,hi,if_true]
    exact hQ G1 a1 w1 k1 s1
   ·rename_i hi
    simp only[Option.some.injEq,Prod.mk.injEq] at hr
    obtain⟨rfl,rfl⟩:=hr
    simp only[exOf,Exit.inBlock,hi,if_false]
    exact hQ G1 a1 w1 k1 s1
  ·rename_i hn
   refine ih1 h hr ?_
   intro G1 a1 w1 k1 s1
   have:=hQ G1 a1 w1 k1 s1
   cases e with
   |normal=>exact this
   |exit i=>exact absurd hr (fun q=>hn i st' q)
   |ret=>exact this
 |loop h1 ih1 =>
  intro ro base Q G st a w e st' h hr hQ
  obtain⟨m,hm⟩:=hl
  exact wpIn_loop_rounds m (hm _ _ _ _ _ (by simpa only[ICode.run] using hr) _ N ro base Q G a w h1 h hQ)
 |exit id =>
  intro ro base Q G st a w e st' h hr hQ
  simp only[ICode.run,Option.some.injEq,Prod.mk.injEq] at hr
  obtain⟨rfl,rfl⟩:=hr
  exact wpIn_exit (hQ G a w h (Step.refl _ _))
 |ret =>
  intro ro base Q G st a w e st' h hr hQ
  simp only[ICode.run,Option.some.injEq,Prod.mk.injEq] at hr
  obtain⟨rfl,rfl⟩:=hr
  exact wpIn_ret (hQ G a w h (Step.refl _ _))
 |any c =>
  intro ro base Q G st a w e st' h hr hQ
  simp[ICode.run,Arg.rd] at hr
 |scope h1 ih1 =>
  intro ro base Q G st a w e st' h hr hQ
  refine wpIn_scope (ih1 h hr ?_)
  intro G1 a1 w1 k1 s1
  have:=hQ G1 a1 w1 k1 s1
  cases e<;>exact this
 |rangeF hg hrn hp hlt h1 h2 ih1 ih2 =>
  rename_i g g' fn site ps as body r
  intro ro base Q G st a w e st' h hr hQ
  simp only[ICode.run] at hr
  split at hr
  ·rename_i f fs cs eg
   split at hr
   ·rename_i rk m0 er ep
    split at hr
    ·rename_i v m ecall
     split at hr
     ·rename_i sb f2 s2 t2 j m2 eget eput
      split at hr
      ·cases hr
      ·rename_i hsb
       refine wpIn_rangeFunc ?_
       intro fnid _
       obtain⟨L,w0,mark,hL1,hL2,hL3,hL4,hL5,hL6,hrun,hw0⟩:=run_enterLoop (P:=X.P) (fn:=fnid) (tmps:=a.tmps) (ps:=ps) (as:=as) (body:=body) h.rok
       have hw00:SR X N G st a w0∧Step G w G w0:=by
        rcases hw0 with ⟨_,rfl,_⟩ | ⟨rfl,_⟩
        ·exact⟨h.sr.grow (Grown1.alloc w _),Step.grow (Grown1.alloc w _)⟩
        ·exact⟨h.sr,Step.refl _ _⟩
       obtain⟨hs0,s0⟩:=hw00
       have hsize:L.tmps.size=N:=by rw[hL3];exact h.sr.size
       have hor:ORel X G (.loop 0 fn site (noL st.env) 0) (.loop L):=by
        refine .loop 0 fn site (noL st.env) 0 L r hrn (by rw[hL4];exact hp) (by rw[hsize];exact hlt) (by rw[hsize,hL5];exact h1) (by rw[hsize,hL6];exact h2) ?_ ?_ hL1 hL2
        ·intro i v c e
         obtain⟨_,v0,c0,k1,k2⟩:=noL_look _ _ _ _ e
         obtain⟨k3,k4⟩:=h.sr.env i v0 c0 k1
         refine⟨?_,by rw[hsize];exact k4⟩
         rcases k2 with ⟨rfl,k2⟩ | rfl
         ·rw[hL3];exact k3.vr k2
         ·exact VR.undef _
        ·intro i v c e
         exact (noL_look _ _ _ _ e).1
       have hng:newG st (.loop 0 fn site (noL st.env) 0) (.yld st.m.size)=some (.yld st.m.size,.any,{ st with m:=m0 }):=by simp[newG,ep]
       obtain⟨G1,hor1⟩:=newG_sound (r:=.func (.yield w0.heap.size) #[] #[]) hs0 (Grown1.alloc w0 (.loop L)) hng hor (by simp) (fun _ _ _ _ q=>by cases q) (fun G' q=>VR.yld _ _ q)
       have hbx1:G1.bx st.m.size=some w0.heap.size:=by
        have q:=SV.vr hor1.sv rfl
        cases q with
        |yld _ b q=>exact q
       obtain⟨rf,rc,hgv,hrf,hrc⟩:=func_inv (h.sr.rd hg eg)
       have up:∀{vs rs},VRs G vs rs→VRs (G1.callee [] (w0.alloc (.loop L)).heap.size) vs rs:=fun q=>VRs.mono (G:=G) (G':=G1.callee [] _) hor1.step.imm hor1.step.bx q
       have hy:VR (G1.callee [] (w0.alloc (.loop L)).heap.size) (.yld st.m.size) (.func (.yield w0.heap.size) #[] #[]):=VR.yld _ _ hbx1
       have hargs:VRs (G1.callee [] (w0.alloc (.loop L)).heap.size) (fs++[.yld st.m.size]++cs) (rf++[.func (.yield w0.heap.size) #[] #[]]++rc):=((up hrf).append (VRs.cons hy VRs.nil)).append (up hrc)
       have hent:=(hc (.f f) _ m0 v m ecall (G1.callee [] (w0.alloc (.loop L)).heap.size) (w0.alloc (.loop L)) _ (hor1.sr.mr.callee (h:=[]) rfl (by simp)) (hor1.sr.wf.callee [] (Nat.le_refl _)) (fun _=>rfl) hargs).2 ⟨st.m.size,by simp⟩
       have hcf:=hent.1
       have hdf0:Df base G (mark++a.defers) w0:=by
        obtain⟨rs,q1,q2,q3⟩:=h.df
        rcases hw0 with ⟨_,rfl,rfl⟩ | ⟨rfl,rfl⟩
        ·refine⟨w.heap.size::rs,by rw[q1];rfl,?_,?_⟩
         ·refine List.nodup_cons.2 ⟨fun q=>?_,q2⟩
          have:=heap_lt (q3 _ q).2.1;omega
         ·intro r hr'
          rcases List.mem_cons.1 hr' with rfl | hr'
          ·refine⟨h.le,(Grown1.alloc w _).new,fun q=>?_⟩
           have:=h.sr.wf.boxlt _ q.boxed;omega
          ·obtain⟨k1,k2,k3⟩:=q3 r hr'
           exact⟨k1,(Grown1.alloc w _).heap k2,k3⟩
        ·exact⟨rs,by simpa using q1,q2,q3⟩
       refine⟨w0.heap.size,mark,_,{ target:=.fn (.func f) ⟨rc⟩,args:=⟨rf⟩ ++ #[.func (.yield w0.heap.size) #[] #[]]},w0.alloc (.loop L),f,⟨rf++[.func (.yield w0.heap.size) #[] #[]]++rc⟩,w0.alloc (.loop L),hrun,?_,fun _ _=>trivial,?_,(fun q=>by simp[Fr,Fence.wide] at q),?_⟩
       ·simp only[resolve,rangeCall,hgv,Deferred.ofValue,Sem.run_pure]
        congr 2
        congr 1
        simp[Act.eval]
       ·have:(⟨rf⟩ ++ #[.func (.yield w0.heap.size) #[] #[]]++⟨rc⟩:Array Value)=⟨rf++[.func (.yield w0.heap.size) #[] #[]]++rc⟩:=by
         apply Array.ext'
         simp
        simp only[invoke,this]
        exact hcf
       ·refine CallsIn.mono (F:=Fence.wide) hent.2 ?_
        rintro ex w3 ⟨rv,rfl,G',k1,k2,k3,k4⟩
        obtain⟨b1,b2⟩:=back_sound hor1.sr (hs:=[]) (by simp) rfl rfl k1 k2 k4
        have hbx2:(G1.back [] G').bx st.m.size=some w0.heap.size:=b2.bx _ _ hbx1
        obtain⟨b,ro3,c1,c2,c3⟩:=b1.mr.bx st.m.size (by simp[eget])
        rw[hbx2] at c1
        simp only[Option.some.injEq] at c1
        subst c1
        simp only[eget] at c3
        cases c3 with
        |loop _ _ _ _ _ L3 r3 d1 d2 d3 d4 d5 d6 d7 d8 d9 =>
         have hget:=run_getObj' (P:=X.P) c2 trivial
         have hset:=run_setObj' (P:=X.P) (o:=.loop { L3 with state:=.exhausted }) c2 trivial
         have hstate:(L3.state==LoopState.busy)=false:=by
          rw[d8]
          match sb,hsb with
          |0,_=>rfl
          |1,_=>rfl
          |n+2,q=>omega
         have hend:(Instr.endLoop w0.heap.size).run X.P w3=.ok (jmp j) (World.putObj w3 w0.heap.size (.loop { L3 with state:=.exhausted })):=by
          rw[←d9]
          simp only[Instr.endLoop,Instr.getLoop,Sem.run_bind,hget,Result.andThen_ok,Sem.run_pure,hstate,Bool.false_eq_true,if_false,hset]
         have hopn:(G1.back [] G').opn w0.heap.size:=b1.mr.opn (by simp[eget]) hbx2
         have e1:=(b1.dropB (o:=.loop { L3 with state:=.exhausted }) hbx2 c2 trivial trivial eput).links (lk:=[]) (by simp)
         have sAll:Step G w (G1.back [] G') (World.putObj w3 w0.heap.size (.loop { L3 with state:=.exhausted })) :=
          s0.trans (hor1.step.trans (b2.trans (Step.putObj c2 (fun L' _=>⟨_,rfl⟩) hopn)))
         have sAll0:Step G w0 (G1.back [] G') (World.putObj w3 w0.heap.size (.loop { L3 with state:=.exhausted })) :=
          hor1.step.trans (b2.trans (Step.putObj c2 (fun L' _=>⟨_,rfl⟩) hopn))
         have hat:At X N ro base (G1.back [] G') { st with m:=m2,lk:=[]} { a with defers:=mark++a.defers } (World.putObj w3 w0.heap.size (.loop { L3 with state:=.exhausted })) :=
          ⟨e1.act rfl,h.rok.step sAll,hdf0.step sAll0,Nat.le_trans h.le sAll.size⟩
         refine⟨jmp j,_,hend,?_⟩
         match j,hr with
         |0,hr =>
          simp only[Option.some.injEq,Prod.mk.injEq] at hr
          obtain⟨rfl,rfl⟩:=hr
          exact hQ _ _ _ hat sAll
         |1,hr =>
          simp only[Option.some.injEq,Prod.mk.injEq] at hr
          obtain⟨rfl,rfl⟩:=hr
          exact wpIn_ret (hQ _ _ _ hat sAll)
         |i+2,hr =>
          simp only[Option.some.injEq,Prod.mk.injEq] at hr
          obtain⟨rfl,rfl⟩:=hr
          exact wpIn_exit (hQ _ _ _ hat sAll)
     ·cases hr
    ·cases hr
   ·cases hr
  ·cases hr
end Go.Idl
namespace Go.Idl
open Classical
variable {X:Ctx}{N:Nat}{G:Gh}{st:St}{a:Act}{w:World}
theorem callee_nil_hid:(G.callee [] G.old).hid=G.hid:=by
 funext id
 simp[Gh.callee]
theorem Step.callee:Step G w (G.callee [] G.old) w where
 os:=rfl
 tape:=rfl
 output:=rfl
 size:=Nat.le_refl _
 imm _ _ _ h:=h
 bx _ _ h:=h
 other _ _ h _ _:=h
 cells _ c _ f h _:=⟨c,f,h,rfl,fun _ _=>rfl,.inl rfl⟩
 immNew _ _ _ _ _ h:=.inl h
 owNew _ _ _ _ h:=by rw[(callee_ow h).1];rfl
 boxNew _ _ h:=callee_opn h
 hid:=callee_nil_hid
 old:=rfl
 bxNew _ _ h:=.inl h
 loop _ L h:=⟨L,h⟩
noncomputable def Gh.cut (G:Gh) (w:World) (n:Nat):Gh where
 imm:=fun b o=>if ∃id,n≤id∧G.bx id=some b then w.cell? ⟨b,o,none⟩ else G.imm b o
 bx:=fun id=>if id<n then G.bx id else none
 lb:=fun _=>none
 ow:=(G.callee [] G.old).ow
 hid:=G.hid
 old:=G.old
theorem cut_imm (hw:WF X G w) {n b o:Nat}{v:Value}(h:G.imm b o=some v):(G.cut w n).imm b o=some v:=by
 simp only[Gh.cut]
 rw[if_neg]
 ·exact h
 ·rintro ⟨id,_,e⟩
  rw[hw.boximm b o (.inl ⟨id,e⟩)] at h;cases h
theorem VR.cut (hw:WF X G w) {n:Nat}{v:IV}{r:Value}(h:VR (G.upto n) v r):VR (G.cut w n) v r :=
 VR.mono (G:=G.upto n) (G':=G.cut w n) (fun b o v e=>cut_imm hw e) (fun id b e=>e) h
theorem WF.cut (hw:WF X G w) (n:Nat):WF X (G.cut w n) w where
 imm b o v e:=by
  simp only[Gh.cut] at e
  split at e
  ·exact e
  ·exact hw.imm b o v e
 inj i j b e1 e2:=by
  simp only[Gh.cut] at e1 e2
  split at e1<;>split at e2<;>first | (cases e1;done) | (cases e2;done) | exact hw.inj i j b e1 e2
 linj i j b e:=by simp[Gh.cut] at e
 disj i k b _ e:=by simp[Gh.cut] at e
 boxlt b k:=by
  rcases k with ⟨id,e⟩ | ⟨k,e⟩
  ·simp only[Gh.cut] at e
   split at e
   ·exact hw.boxlt b (.inl ⟨id,e⟩)
   ·cases e
  ·simp[Gh.cut] at e
 boximm b o k:=by
  rcases k with ⟨id,e⟩ | ⟨k,e⟩
  ·simp only[Gh.cut] at e ⊢
   split at e
   ·rename_i q
    rw[if_neg]
    ·exact hw.boximm b o (.inl ⟨id,e⟩)
    ·rintro ⟨id',q1,q2⟩
     have:=hw.inj _ _ _ e q2
     omega
   ·cases e
  ·simp[Gh.cut] at e
 boxow b o k:=by
  rcases k with ⟨id,e⟩ | ⟨k,e⟩
  ·simp only[Gh.cut] at e
   split at e
   ·exact callee_ow_none (n:=G.old) (hw.boxow b o (.inl ⟨id,e⟩))
   ·cases e
  ·simp[Gh.cut] at e
 owimm b o l e:=by
  have e2:=(callee_ow (n:=G.old) e).1
  simp only[Gh.cut]
  rw[if_neg]
  ·exact hw.owimm b o l e2
  ·rintro ⟨id,_,q⟩
   rw[hw.boxow b o (.inl ⟨id,q⟩)] at e2;cases e2
 owcell b o l e:=hw.owcell b o l (callee_ow (n:=G.old) e).1
 old:=hw.old
 glob g row hr:=by
  have h1:=(hw.glob g row hr).toPl rfl
  have h2:VR (G.cut w n).pl (.pI row 0) (.pointer (some ⟨g,0,none⟩)):=VR.mono (G:=G.pl) (G':=(G.cut w n).pl) (fun b o v e=>cut_imm hw e) (fun _ _ e=>e) h1
  exact h2.ofPl
theorem Step.cut {G0:Gh}{w0:World}(s:Step G0 w0 G w) (hw:WF X G w) {n:Nat}(hd:∀id b,G0.bx id=some b→id<n):Step G0 w0 (G.cut w n) w where
 os:=s.os
 tape:=s.tape
 output:=s.output
 size:=s.size
 imm b o v e:=cut_imm hw (s.imm b o v e)
 bx id b e:=by simp only[Gh.cut,hd id b e,if_true];exact s.bx id b e
 other:=s.other
 cells:=s.cells
 immNew b o v hb nb e:=by
  simp only[Gh.cut] at e
  split at e
  ·rename_i q
   obtain⟨id,q1,q2⟩:=q
   rcases s.bxNew id b q2 with q3 | q3
   ·have:=hd id b q3;omega
   ·omega
  ·exact s.immNew b o v hb nb e
 owNew b o l hb e:=s.owNew b o l hb (callee_ow (n:=G.old) e).1
 boxNew b hb q:=by
  rcases q with ⟨id,e1,e2⟩ | ⟨k,e⟩
  ·simp only[Gh.cut] at e1
   split at e1
   ·exact s.boxNew b hb (.inl ⟨id,e1,e2⟩)
   ·cases e1
  ·simp[Gh.cut] at e
 hid:=s.hid
 old:=s.old
 bxNew id b e:=by
  simp only[Gh.cut] at e
  split at e
  ·exact s.bxNew id b e
  ·cases e
 loop:=s.loop
theorem MR.cut {m:IM}(h:MR X G m w) (hw:WF X G w) {n:Nat}(hn:n≤m.size) (hc:ClI n m) (hh:∀id,G.hid id=true→id<n):MR X (G.cut w n) { m with bs:=m.bs.take n } w:=by
 have hsz:IM.size { m with bs:=m.bs.take n }=n:=by simp only[IM.size] at hn ⊢;simp;omega
 have hget:∀j,IM.get { m with bs:=m.bs.take n } j=if j<n then m.get j else .none:=by
  intro j
  split
  ·rename_i q;exact take_get q
  ·rename_i q
   simp only[IM.get,List.getD_eq_getElem?_getD]
   rw[List.getElem?_eq_none (by simp;omega)]
   rfl
 refine { bx:=?_,own:=?_,dom:=?_,hid:=?_ }
 ·intro id hne
  rw[hget] at hne ⊢
  split at hne
  ·rename_i q
   rw[if_pos q]
   obtain⟨b,ro,e1,e2,e3⟩:=h.bx id hne
   refine⟨b,ro,by simp only[Gh.cut,q,if_true];exact e1,e2,?_⟩
   exact ORel.mono (G:=G.upto n) (G':=G.cut w n) (fun b o v e=>cut_imm hw e) (fun _ _ e=>e) (e3.upto (hc id q))
  ·exact absurd rfl hne
 ·intro id cs cp off sz e1 e2 b r e3 e4
  rw[hget] at e1
  split at e1
  ·rename_i q
   simp only[Gh.cut,q,if_true] at e3
   have ho:=h.own id cs cp off sz e1 e2 b r e3 e4
   intro b' o sp len cap e5
   obtain⟨k1,k2⟩:=ho b' o sp len cap e5
   refine⟨k1,fun j hj1 hj2=>?_⟩
   simp[Gh.cut,Gh.callee,Gh.cow,k2 j hj1 hj2]
  ·cases e1
 ·intro id b e
  rw[hsz]
  simp only[Gh.cut] at e
  split at e
  ·assumption
  ·cases e
 ·intro id e
  have:=hh id e
  rw[hsz,hget,if_pos this]
  exact⟨this,(h.hid id e).2⟩
noncomputable def Gh.fz (G:Gh) (w:World) (n:Nat):Gh:={ G with imm:=(G.cut w n).imm }
theorem VR.fz (hw:WF X G w) {n:Nat}{v:IV}{r:Value}(h:VR G v r):VR (G.fz w n) v r:=VR.mono (G:=G) (G':=G.fz w n) (fun b o v e=>cut_imm hw e) (fun _ _ e=>e) h
theorem frz_vr {m:IM}(hm:MR X G m w) (hw:WF X G w) {n:Nat}{v:IV}{r:Value}(h:VR G v r):VR (G.fz w n) (frz n m v) r:=by
 unfold frz
 split
 ·rename_i id off len sz
  split
  ·exact h.fz hw
  ·rename_i hid
   split
   ·rename_i cs cp e1
    split
    ·rename_i row e2
     split
     ·rename_i hpl
      cases h with
      |sB _ _ _ _ b cap hb hle =>
       obtain⟨b',ro,k1,k2,k3⟩:=hm.bx id (by rw[e1];simp)
       rw[hb] at k1
       simp only[Option.some.injEq] at k1
       subst k1
       rw[e1] at k3
       cases k3 with
       |cells _ _ rc t f g1 g2 g3 =>
        unfold cut at e2
        split at e2
        ·rename_i hlen
         simp only[Option.some.injEq] at e2
         subst e2
         have hrl:((cs.drop off).take (len*sz)).length=len*sz:=by simp;omega
         refine VR.sl _ len b off cap (fun i=>rc.getD (off+i) undef) ?_ ?_ hle
         ·intro i hi
          rw[hrl] at hi
          have hlt:off+i<rc.length:=by rw[g1.1];omega
          simp only[Gh.fz,Gh.cut]
          rw[if_pos ⟨id,by omega,hb⟩,cell_of_heap k2,List.getElem?_eq_getElem hlt,List.getD_eq_getElem?_getD,List.getElem?_eq_getElem hlt]
          rfl
         ·intro i hi
          have hi':i<len*sz:=by rw[hrl] at hi;exact hi
          have hlt:off+i<rc.length:=by rw[g1.1];omega
          rw[List.getD_eq_getElem?_getD,List.getElem?_eq_getElem hlt]
          have hv:=g1.2 (off+i) (by omega) hlt
          have hmem:=List.all_eq_true.1 hpl _ (List.getElem_mem hi)
          simp only[List.getElem_take,List.getElem_drop] at hmem ⊢
          exact VR.mono (G:=G.pl) (G':=(G.fz w n).pl) (fun b o v e=>cut_imm hw e) (fun _ _ e=>e) (hv.toPl hmem)
        ·cases e2
     ·exact h.fz hw
    ·exact h.fz hw
   ·exact h.fz hw
 ·exact h.fz hw
theorem frz_vrs {m:IM}(hm:MR X G m w) (hw:WF X G w) {n:Nat}{vs:List IV}{rs:List Value}(h:VRs G vs rs):VRs (G.fz w n) (vs.map (frz n m)) rs :=
 ⟨by simp[h.1],fun i hi hi'=>by simp only[List.getElem_map];exact frz_vr hm hw (h.2 i (by simpa using hi) hi')⟩
theorem frzD_vr {m:IM}(hm:MR X G m w) (hw:WF X G w) {n:Nat}{v:IV}{r:Value}(h:VR G v r):VR (G.fz w n) (frzD n m v) r:=by
 unfold frzD
 split
 ·obtain⟨rc,rfl,k⟩:=h.agg_inv
  exact VR.agg' (frz_vrs hm hw k)
 ·obtain⟨rc,rfl,k⟩:=h.tup_inv
  refine VR.tup' ⟨by simp[k.1],fun i hi hi'=>?_⟩
  simp only[List.getElem_map]
  have hv:=k.2 i (by simpa using hi) hi'
  split
  ·rename_i cs q
   rw[q] at hv
   obtain⟨rc',e,k'⟩:=hv.agg_inv
   rw[e]
   exact VR.agg' (frz_vrs hm hw k')
  ·exact frz_vr hm hw hv
 ·exact frz_vr hm hw h
theorem settle_sound {G0:Gh}{w0:World}{m0:IM}(hm0:MR X G0 m0 w0) (s:Step G0 w0 G w) {m:IM}(hm:MR X G m w) (hw:WF X G w) (hk:Keep m0 m) {v v':IV}{m':IM}(hs:settle m0 m v=some (v',m')) {r:Value}(hv:VR G v r) :
  After X G0 w0 m' v' r w:=by
 have hcl0:ClI m0.size m0:=by
  intro id hid
  cases hg:m0.get id with
  |none=>trivial
  |iter s p=>trivial
  |cells cs cp =>
   obtain⟨b,ro,k1,k2,k3⟩:=hm0.bx id (by rw[hg];simp)
   rw[hg] at k3
   cases k3 with
   |cells _ _ rc t f g1 g2 g3 =>
    intro u hu
    obtain⟨i,hi,rfl⟩:=List.getElem_of_mem hu
    exact (g1.2 i hi (by rw[g1.1];exact hi)).lo hm0.dom
  |map es =>
   obtain⟨b,ro,k1,k2,k3⟩:=hm0.bx id (by rw[hg];simp)
   rw[hg] at k3
   cases k3 with
   |map _ res clock g1 g2 =>
    intro p hp
    obtain⟨i,hi,rfl⟩:=List.getElem_of_mem hp
    have q1:=g1.1
    have q2:=g2.1
    simp only[List.length_map] at q1 q2
    refine⟨?_,?_⟩
    ·have:=g1.2 i (by simpa using hi) (by simp;omega)
     simp only[List.getElem_map] at this
     exact this.lo hm0.dom
    ·have:=g2.2 i (by simpa using hi) (by simp;omega)
     simp only[List.getElem_map] at this
     exact this.lo hm0.dom
  |loop busy fn site tm j =>
   obtain⟨b,ro,k1,k2,k3⟩:=hm0.bx id (by rw[hg];simp)
   rw[hg] at k3
   cases k3 with
   |loop _ _ _ _ _ L r hr hp hlt h1 h2 he hc hs hj=>exact fun i v c e=>(he i v c e).1.lo hm0.dom
 unfold settle at hs
 simp only[frc_eq] at hs
 split at hs
 ·rename_i k bs ek eb
  cases eb
  have whole:some (v,m)=some (v',m')→After X G0 w0 m' v' r w:=by
   intro e
   simp only[Option.some.injEq,Prod.mk.injEq] at e
   obtain⟨rfl,rfl⟩:=e
   exact⟨G.callee [] G.old,hm.callee rfl (by simp),hw.callee [] hw.old,hv.callee,s.trans Step.callee⟩
  split at hs
  ·rename_i hesc
   have hcut:∀u,VR (G.cut w m0.size) u r→some (u,{ m with bs:=m.bs.take m0.size })=some (v',m')→After X G0 w0 m' v' r w:=by
    intro u hu e
    simp only[Option.some.injEq,Prod.mk.injEq] at e
    obtain⟨rfl,rfl⟩:=e
    exact⟨G.cut w m0.size,hm.cut hw hk.size (hk.cl hesc _ (Nat.le_refl _) hcl0) (fun id e=>(hm0.hid id (by rw[←s.hid];exact e)).1),hw.cut _,hu,s.cut hw hm0.dom⟩
   split at hs
   ·rename_i hle
    exact hcut v (VR.cut hw (hv.upto (refsDeep_lo ek hle))) hs
   ·split at hs
    ·rename_i k2 ek2
     split at hs
     ·rename_i hle
      have h1:=(frzD_vr (n:=m0.size) hm hw hv).upto (refsDeep_lo ek2 hle)
      exact hcut _ (VR.mono (G:=(G.fz w m0.size).upto m0.size) (G':=G.cut w m0.size) (fun _ _ _ e=>e) (fun _ _ e=>e) h1) hs
     ·exact whole hs
    ·cases hs
  ·exact whole hs
 ·cases hs
end Go.Idl
