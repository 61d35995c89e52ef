/- This text proves that every run of that interpreter is a run of the program, also where a region draws its order; it has no conditions. -/
import Derived.Test.YtihkfdkoncekmaaGreatDoorIdc
import Derived.Test.YtihkfdkoncekmaaGreatDoorIda
import Derived.OrdersIn
set_option linter.unusedSimpArgs false
set_option linter.unusedVariables false
namespace Go.Idl
open Classical
variable {X:Ctx}{N:Nat}{G:Gh}{st:St}{a:Act}{w:World}
theorem wk {c:cV}{v:IV}{sz s:Nat}(h:dp c v sz=.own s):c=.own s∨(c=.any∧v=.aa∧s=sz):=by
 unfold dp at h;split at h
 ·exact .inl h
 ·split at h
  ·cases h;exact .inr ⟨rfl,rfl,rfl⟩
  ·cases h
theorem Gg {G:Gh}{l:Loc}{sz:Nat}{r:Value}(h:SV G .aa r):gR G l sz r:=by
 have:r=.slice none 0 0:=by cases SV.vr h rfl;rfl
 subst this;intro b o sp len cap e
 cases e
theorem nJ:∀(e:Env) (eC:List Nat) (l:List (Nat×Nat)) (e':Env),eN e eC l=some e'→∀i v c,look e' i=some (v,c) →
  ∃c0,look e i=some (v,c0)∧(∀k off,v=.pL k off→k∈eC)∧(∀s,c=.own s→c0=.own s∨v=.aa)
 |e,eC,[],e',h,i,v,c,hl=>by simp only[eN,Option.some.injEq] at h;subst h;cases hl
 |e,eC,(j,o)::l,e',h,i,v,c,hl=>by
  simp only[eN] at h;split at h
  ·rename_i u d r e1 e2;have ih:=nJ e eC l r e2;split at h
   ·rename_i hcheck;have hkeep:∀k off,u=.pL k off→k∈eC:=by rintro k off rfl;simpa using hcheck
    have fin:∀c',some ((j,u,c')::r)=some e'→(∀s,c'=.own s→d=.own s∨u=.aa)→∃c0,look e i=some (v,c0)∧(∀k off,v=.pL k off→k∈eC)∧(∀s,c=.own s→c0=.own s∨v=.aa):=by
     intro c' he hc';simp only[Option.some.injEq] at he;subst he;rw[dZ] at hl;split at hl
     ·rename_i q;subst q;simp only[Option.some.injEq,Prod.mk.injEq] at hl;obtain⟨rfl,rfl⟩:=hl;exact⟨d,e1,hkeep,hc'⟩
     ·exact ih i v c hl
    split at h
    ·exact fin .any h (fun s q=>by cases q)
    ·rename_i sz;split at h
     ·rename_i s hcap;refine fin (.own s) h (fun s' q=>?_)
      cases q
      rcases wk hcap with q | ⟨_,q,_⟩
      ·exact .inl q
      ·exact .inr q
     ·exact fin .any h (fun s q=>by cases q)
   ·cases h
  ·rename_i r e1 e2;simp only[Option.some.injEq] at h;subst h;exact nJ e eC l _ e2 i v c hl
  ·cases h
theorem sF (k:Nat) (cs:List IV):∀(l:List (Nat×Nat×Nat)) (cp:List cV),(eR k cs l cp).length=cp.length∧∀(off s:Nat),(eR k cs l cp)[off]?=some (cV.own s)→cp[off]?=some (cV.own s)∨cs[off]?=some IV.aa
 |[],cp=>⟨rfl,fun off s h=>.inl h⟩
 |(k',o,sz)::l,cp=>by
  simp only[eR];split
  ·obtain⟨h1,h2⟩:=sF k cs l (cp.set o (dp (cp.getD o .any) (cs.getD o .undef) sz));refine⟨by rw[h1];simp,fun off s h=>?_⟩;rcases h2 off s h with q | q
   ·rw[List.getElem?_set] at q;split at q
    ·rename_i qo;subst qo;split at q
     ·rename_i hlt;simp only[Option.some.injEq] at q;rcases wk q with q | ⟨_,q,_⟩
      ·exact .inl (wO q)
      ·right;rw[List.getD_eq_getElem?_getD] at q
       cases e:cs[o]? with
       |none=>rw[e] at q;cases q
       |some u=>rw[e] at q;simp only[Option.getD_some] at q;rw[q]
     ·cases q
    ·exact .inl q
   ·exact .inr q
  ·exact sF k cs l cp
theorem nH:∀(lb:List (Nat×aS)) (own:List (Nat×Nat×Nat)) (l:List Nat) (lb':List (Nat×aS)),eM lb own l=some lb'→∀k,
  (aQ lb' k ≠ .none→k∈l)∧(k∈l→aQ lb k ≠ .none→aQ lb' k ≠ .none) ∧
  (aQ lb' k ≠ .none→(∃cs cp,aQ lb k=.cells cs cp∧∃cp',aQ lb' k=.cells cs cp'∧cp'.length=cp.length∧∀(off s:Nat),cp'[off]?=some (.own s)→cp[off]?=some (.own s)∨cs[off]?=some .aa)∨(aQ lb' k=aQ lb k∧∀cs cp,aQ lb k ≠ .cells cs cp))
 |lb,own,[],lb',h,k=>by
  simp only[eM,Option.some.injEq] at h;subst h;exact⟨fun q=>absurd rfl q,fun q=>by simp at q,fun q=>absurd rfl q⟩
 |lb,own,j::l,lb',h,k=>by
  simp only[eM] at h;split at h
  ·cases h
  ·rename_i r er;obtain⟨i1,i2,i3⟩:=nH lb own l r er k;split at h
   ·rename_i cs cp e1;simp only[aK,Option.some.injEq] at h;subst h;rw[cg];by_cases q:j=k
    ·subst q;rw[if_pos rfl];obtain⟨c1,c2⟩:=sF j cs own cp;exact⟨fun _=>List.mem_cons_self,fun _ _=>by simp,fun _=>.inl ⟨cs,cp,e1,_,rfl,c1,c2⟩⟩
    ·rw[if_neg q];refine⟨fun z=>List.mem_cons_of_mem _ (i1 z),fun z=>i2 ?_,i3⟩;rcases List.mem_cons.1 z with z | z
     ·exact absurd z.symm q
     ·exact z
   ·rename_i s p e1;simp only[Option.some.injEq] at h;subst h;rw[cg];by_cases q:j=k
    ·subst q;rw[if_pos rfl];exact⟨fun _=>List.mem_cons_self,fun _ _=>by simp,fun _=>.inr ⟨e1.symm,fun cs cp z=>by rw[e1] at z;cases z⟩⟩
    ·rw[if_neg q];refine⟨fun z=>List.mem_cons_of_mem _ (i1 z),fun z=>i2 ?_,i3⟩;rcases List.mem_cons.1 z with z | z
     ·exact absurd z.symm q
     ·exact z
   ·rename_i e1;simp only[Option.some.injEq] at h;subst h;refine⟨fun z=>List.mem_cons_of_mem _ (i1 z),fun z z2=>?_,i3⟩;rcases List.mem_cons.1 z with z | z
    ·subst z;exact absurd e1 z2
    ·exact i2 z z2
   ·cases h
theorem El (h : SR X N G st a w) {hd : Head} {st' : St} (e : st.head hd = some st') : ∃ G', SR X N G' st' a w ∧ Step G w G' w := by
  unfold St.head at e;split at e
  · rename_i env lb e1 e2;simp only [Option.some.injEq] at e;subst e;obtain ⟨G', hG'⟩ : ∃ G' : Gh, G' = { G with lb := fun k => match aQ lb k with | .none => none | _ => G.lb k } := ⟨_, rfl⟩
    have hlb : ∀ k b, G'.lb k = some b → G.lb k = some b ∧ aQ lb k ≠ .none := by
      intro k b q;subst hG';simp only at q;split at q
      · cases q
      · rename_i q2; exact ⟨q, q2⟩
    have hlb' : ∀ k, aQ lb k ≠ .none → G'.lb k = G.lb k := by intro k q;subst hG';simp only
    have hbox : ∀ b, G'.boxed b → G.boxed b := by
      rintro b (⟨id, q⟩ | ⟨k, q⟩)
      · subst hG'; exact .inl ⟨id, q⟩
      · exact .inr ⟨k, (hlb k b q).1⟩
    have hopn : ∀ b, G'.p8 b → G.p8 b := by
      rintro b (⟨id, q, q'⟩ | ⟨k, q⟩)
      · subst hG'; exact .inl ⟨id, q, q'⟩
      · exact .inr ⟨k, (hlb k b q).1⟩
    have hi : G'.dB = G.dB := by subst hG'; rfl
    have hb : G'.bx = G.bx := by subst hG'; rfl
    have ho : G'.ow = G.ow := by subst hG'; rfl
    have hh : G'.cd = G.cd := by subst hG'; rfl
    have vr : ∀ {v r}, VR G v r → VR G' v r := fun q => q.mono (by rw [hi]; exact fun _ _ _ h => h) (by rw [hb]; exact fun _ _ h => h);have orl : ∀ {v r}, eK X G v r → eK X G' v r := fun q => q.mono (by rw [hi]; exact fun _ _ _ h => h) (by rw [hb]; exact fun _ _ h => h);have own : ∀ {l sz r}, gR G l sz r → gR G' l sz r := fun {l sz r} q b o sp len cap z => by rw [ho]; exact q b o sp len cap z
    refine ⟨G', { size := h.size, env := ?_, own := ?_, lk := fun i l q => by simp at q, lb := ?_, dE := ?_, dO := fun k b q => (hlb k b q).2, mr := ?_, wf := ?_ }, ?_⟩
    · intro i v c q;obtain ⟨c0, k1, k2, k3⟩ := nJ _ _ _ _ e1 i v c q;obtain ⟨k4, k5⟩ := h.env i v c0 k1;refine ⟨?_, k5⟩
      cases hv : v.jO with
      | false => exact SV.of (vr (k4.vr hv))
      | true =>
        cases v <;> first | (simp [IV.jO] at hv; done) | skip
        rename_i k off;obtain ⟨b, q1, q2⟩ := k4;exact ⟨b, by rw [hlb' k ((nH _ _ _ _ e2 k).2.1 (k2 k off rfl) (h.dO k b q1))]; exact q1, q2⟩
    · intro i v sz q;obtain ⟨c0, k1, k2, k3⟩ := nJ _ _ _ _ e1 i v _ q;rcases k3 sz rfl with rfl | rfl
      · exact own (h.own i v sz k1)
      · exact Gg (SV.of (vr (SV.vr (h.env i _ c0 k1).1 rfl)))
    · intro k q;obtain ⟨i1, i2, i3⟩ := nH _ _ _ _ e2 k;rcases i3 q with ⟨cs, cp, j1, cp', j2, j3, j4⟩ | ⟨j1, j2⟩
      · obtain ⟨b, ro, k1, k2, k3⟩ := h.lb k (by rw [j1]; simp);rw [j1] at k3
        cases k3 with
        | cells _ _ rc t f g1 g2 g3 => exact ⟨b, _, by rw [hlb' k q]; exact k1, k2, by show eK X G' (aQ lb k) _; rw [j2]; exact orl (.cells _ _ _ _ _ g1 g2 (by omega))⟩
      · obtain ⟨b, ro, k1, k2, k3⟩ := h.lb k (by rw [← j1]; exact q);exact ⟨b, ro, by rw [hlb' k q]; exact k1, k2, by show eK X G' (aQ lb k) _; rw [j1]; exact orl k3⟩
    · intro k cs cp' off sz q1 q2 b r q3 q4;replace q1 : aQ lb k = .cells cs cp' := q1;obtain ⟨i1, i2, i3⟩ := nH _ _ _ _ e2 k;rcases i3 (by rw [q1]; simp) with ⟨cs0, cp, j1, cp2, j2, j3, j4⟩ | ⟨j1, j2⟩
      · rw [q1] at j2;simp only [aS.cells.injEq] at j2;obtain ⟨rfl, rfl⟩ := j2;rcases j4 off sz q2 with j5 | j5
        · exact own (h.dE k cs cp off sz j1 j5 b r (hlb k b q3).1 q4)
        · obtain ⟨b', ro, k1, k2, k3⟩ := h.lb k (by rw [j1]; simp);rw [(hlb k b q3).1] at k1;simp only [Option.some.injEq] at k1;subst k1;rw [j1] at k3
          cases k3 with
          | cells _ _ rc t f g1 g2 g3 =>rw [cC k2] at q4;obtain ⟨r', hr', hv⟩ := g1.get j5;rw [q4] at hr';simp only [Option.some.injEq] at hr';subst hr';exact Gg (SV.of (vr hv))
      · rw [q1] at j1;exact absurd j1.symm (j2 cs cp')
    · refine { bx := ?_, own := ?_, kY := by rw [hb]; exact h.mr.kY, cd := by rw [hh]; exact h.mr.cd }
      · intro id q;obtain ⟨b, ro, k1, k2, k3⟩ := h.mr.bx id q;exact ⟨b, ro, by rw [hb]; exact k1, k2, orl k3⟩
      · intro id cs cp off sz q1 q2 b r q3 q4;rw [hb] at q3;exact own (h.mr.own id cs cp off sz q1 q2 b r q3 q4)
    · refine { dB := by rw [hi]; exact h.wf.dB, inj := by rw [hb]; exact h.wf.inj, ja := fun i j b q1 q2 => h.wf.ja i j b (hlb i b q1).1 (hlb j b q2).1, fB := fun i k b q1 q2 => h.wf.fB i k b (by rw [hb] at q1; exact q1) (hlb k b q2).1,
               eY := fun b q => h.wf.eY b (hbox b q), ew := fun b o q => by rw [hi]; exact h.wf.ew b o (hbox b q), eU := fun b o q => by rw [ho]; exact h.wf.eU b o (hbox b q),
               fL := by rw [ho, hi]; exact h.wf.fL, dR := by rw [ho]; exact h.wf.dR, gj := by subst hG'; exact h.wf.gj, iD := fun g row hr => vr (h.wf.iD g row hr) }
    · exact { Step.refl G w with
        dB := by rw [hi]; exact fun _ _ _ h => h
        bx := by rw [hb]; exact fun _ _ h => h
        eW := fun b o v _ _ q => .inl (by rw [hi] at q; exact q)
        fY := fun b o l _ q => by rw [ho] at q; rw [q]; rfl
        fh := fun b _ q => hopn b q
        cd := hh
        gj := by subst hG'; rfl
        gm := fun id b q => .inl (by rw [hb] at q; exact q) }
  · cases e
end Go.Idl
namespace Go.Idl
open Classical
variable {X:Ctx}{N:Nat}{G:Gh}{st:St}{a:Act}{w:World}
inductive QQ (P:Program):ResultVar→RV→Prop
 |tmp (i:Nat):QQ P (.tmp i) (.t i)
 |cell (i:Nat) (t:TypeId) (d:TypeDesc) (n bytes:Nat) (agg:Bool) (h:kW P t d n bytes agg):QQ P (.cell i t) (.cell i agg n)
inductive vO (P:Program):List ResultVar→List RV→Prop
 |nil:vO P [] []
 |cons {x:ResultVar}{y:RV}{xs:List ResultVar}{ys:List RV}(h:QQ P x y) (hs:vO P xs ys):vO P (x::xs) (y::ys)
def C8 (tmps:Array Value):ResultVar→Sem Value
 |.tmp t=>pure (tmps.getD t undef)
 |.cell b t=>do loadVar t (←asAddr (tmps.getD b undef))
theorem EV (fn:Func) (tmps:Array Value):results fn tmps=(do
  let vs ←fn.results.mapM (C8 tmps)
  pure (if h:vs.size=1 then vs[0] else .tuple vs)):=by
 unfold results;have:(fun | .tmp t=>(pure (tmps.getD t undef):Sem Value) | .cell b t=>do loadVar t (←asAddr (tmps.getD b undef)):ResultVar→Sem Value)=C8 tmps:=by
  funext x
  cases x<;>rfl
 rw[←this];rfl
theorem Dj (h:SR X N G st a w) (i:Nat):SV G (dy st.env i) (a.tmps.getD i undef):=by
 unfold dy;split
 ·rename_i v c e;exact (h.env i v c e).1
 ·exact SV.of (VR.undef _)
theorem HN (h:SR X N G st a w) {t:TypeId}{d n bytes ag} (ht:kW X.P t d n bytes ag) {p v:IV}(hl:dU st.lb st.m ag n p=some v) {rp:Value}(hp:SV G p rp) :
  ∃ad r,rp=.pointer (some ad)∧(loadVar t ad).run X.P w=.ok r w∧SV G v r:=by
 unfold dU at hl
 cases ag with
 |true =>
  simp only[aK] at hl
  cases e:bu st.lb st.m p n with
  |none=>rw[e] at hl;cases hl
  |some cs =>
   rw[e] at hl;simp only[Option.some.injEq] at hl;subst hl;obtain⟨b,o,rs,rfl,h1,h2,h3⟩:=ir h e hp;have hld:(loadCells ⟨b,o,none⟩ n).run X.P w=.ok rs.toArray w:=by have:=run_loadCells_list (P:=X.P) w ⟨b,o,none⟩ rs (fun j v e=>by rw[eQ];exact h3 j v e);rw[h1.1,h2] at this;exact this
   exact⟨_,.agg rs.toArray,rfl,by simp[loadVar,kx ht,dX ht,hld],VR.B1 h1⟩
 |false =>
  simp only at hl;split at hl
  ·rename_i v' e;simp only[Option.some.injEq] at hl;subst hl;obtain⟨b,o,rs,rfl,h1,h2,h3⟩:=ir h e hp;obtain⟨r,rs',rfl,hv,hs⟩:=h1.jw;have hc:=h3 0 r rfl;rw[Nat.add_zero] at hc;exact⟨_,r,rfl,by simp[loadVar,kx ht,hc],SV.of hv⟩
  ·cases hl
theorem qN (h:SR X N G st a w):∀(xs:List ResultVar) (ys:List RV) (vs:List IV),vO X.P xs ys→cY st ys=some vs →
  ∃rs,(xs.mapM (C8 a.tmps)).run X.P w=.ok rs w∧nY G vs rs
 |[],ys,vs,hR,hr=>by
  cases hR
  simp only[cY,Option.some.injEq] at hr;subst hr;exact⟨[],by simp,rfl,fun i v r e=>by simp at e⟩
 |x::xs,ys,vs,hR,hr=>by
  have cons:∀{v:IV}{r:Value}{vs:List IV}{rs:List Value},SV G v r→nY G vs rs→nY G (v::vs) (r::rs):=by
   intro v r vs rs h1 h2;refine⟨by simp[h2.1],fun i v' r' e1 e2=>?_⟩
   cases i with
   |zero=>simp at e1 e2;subst e1;subst e2;exact h1
   |succ i=>simp at e1 e2;exact h2.2 i v' r' e1 e2
  cases hR with
  |cons hx hs =>
   rename_i y ys
   cases hx with
   |tmp i =>
    simp only[cY] at hr;split at hr
    ·rename_i us e;simp only[Option.some.injEq] at hr;subst hr;obtain⟨rs,h1,h2⟩:=qN h xs ys us hs e;exact⟨_,by simp only[List.mapM_cons,C8,Sem.run_bind,Sem.run_pure,Result.andThen_ok,h1],cons (Dj h i) h2⟩
    ·cases hr
   |cell i t d n bytes agg ht =>
    simp only[cY] at hr;split at hr
    ·rename_i v us e1 e2;simp only[Option.some.injEq] at hr;subst hr;obtain⟨rs,h1,h2⟩:=qN h xs ys us hs e2;obtain⟨ad,r,k1,k2,k3⟩:=HN h ht e1 (Dj h i);refine⟨r::rs,?_,cons k3 h2⟩;simp only[List.mapM_cons,C8,Sem.run_bind,k1,asAddr,Sem.run_pure,Result.andThen_ok,k2,h1]
    ·cases hr
def RU:List IV→IV
 |[x]=>x
 |xs=>.db xs
def UI:List Value→Value
 |[r]=>r
 |rs=>.tuple ⟨rs⟩
theorem yo (h:SR X N G st a w) {fn:Func}{ys:List RV}(hR:vO X.P fn.results.toList ys) {vs:List IV}(hr:cY st ys=some vs) :
  ∃rs,nY G vs rs∧(results fn a.tmps).run X.P w=.ok (UI rs) w:=by
 obtain⟨rs,h1,h2⟩:=qN h _ _ _ hR hr;refine⟨rs,h2,?_⟩;rw[EV,Array.mapM_eq_mapM_toList];simp only[Sem.run_bind,Sem.run_map,h1,Result.andThen_ok,Sem.run_pure]
 match rs with
 |[]=>rfl
 |[r]=>rfl
 |r::r'::rs=>rfl
theorem SR.mark (h:SR X N G st a w) {r:Nat}{x y:Option (List Deferred)}(hr:w.heap[r]?=some (.deferred x)):SR X N G st a (World.putObj w r (.deferred y)):=by
 have hne:∀{b o ro},w.heap[b]?=some ro→eK X G o ro→b≠r:=by
  rintro b o ro h1 h2 rfl;rw[hr] at h1;simp only[Option.some.injEq] at h1;subst h1
  cases h2
 refine { size:=h.size,env:=h.env,own:=h.own,lk:=fun i l hm=>(h.lk i l hm).putObj (o:=.deferred y) hr trivial trivial,lb:=?_,dE:=?_,dO:=h.dO,mr:=?_,wf:=h.wf.putObj hr trivial trivial }
 ·intro k hn;obtain⟨b,ro,e1,e2,e3⟩:=h.lb k hn;exact⟨b,ro,e1,by rw[cn (hne e2 e3)];exact e2,e3⟩
 ·intro k cs cp off sz e1 e2 b r' e3 e4;rw[fu (o:=.deferred y) hr trivial trivial] at e4;exact h.dE k cs cp off sz e1 e2 b r' e3 e4
 ·refine { bx:=?_,own:=?_,kY:=h.mr.kY,cd:=h.mr.cd }
  ·intro id hn;obtain⟨b,ro,e1,e2,e3⟩:=h.mr.bx id hn;exact⟨b,ro,e1,by rw[cn (hne e2 e3)];exact e2,e3⟩
  ·intro id cs cp off sz e1 e2 b r' e3 e4;rw[fu (o:=.deferred y) hr trivial trivial] at e4;exact h.mr.own id cs cp off sz e1 e2 b r' e3 e4
theorem Step.mark {G0:Gh}{w0:World}(s:Step G0 w0 G w) {r:Nat}{x y:Option (List Deferred)}(hr:w.heap[r]?=some (.deferred x)) (hle:w0.heap.size≤r):Step G0 w0 G (World.putObj w r (.deferred y)) where
 os:=s.os
 tape:=s.tape
 output:=s.output
 size:=by simp[s.size]
 dB:=s.dB
 bx:=s.bx
 other b o h nb nc:=by rw[cn (by have:=gw h;omega)];exact s.other b o h nb nc
 cells b c t f h nb:=by obtain⟨c',f',e1,e2,e3,e4⟩:=s.cells b c t f h nb;exact⟨c',f',by rw[cn (by have:=gw h;omega)];exact e1,e2,e3,e4⟩
 eW:=s.eW
 fY:=s.fY
 fh:=s.fh
 cd:=s.cd
 gj:=s.gj
 gm:=s.gm
 loop b L h:=by obtain⟨L',e⟩:=s.loop b L h;exact⟨L',by rw[cn (by have:=gw h;omega)];exact e⟩
theorem tT {G0:Gh}{w0:World}{fn:Func}{R:Ending→World→Prop}:∀(rs:List Nat) (w:World),SR X N G st a w→rs.Nodup→(∀r∈rs,w0.heap.size≤r∧w.heap[r]?=some (.deferred (some [])))→Step G0 w0 G w →
  (∀w',SR X N G st a w'→Step G0 w0 G w'→∃v,(results fn a.tmps).run X.P w'=.ok v w'∧R (.returned v) w') →
  LeavesInM Fence.wide 0 X.P fn a.tmps R (rs.map (fun r=>{ target:=.collected r,args:=#[]})) .returning w
 |[],w,h,_,_,s,hR=>by
  obtain⟨v,h1,h2⟩:=hR w h s;exact⟨v,h1,h2⟩
 |r::rs,w,h,hn,hm,s,hR=>by
  obtain⟨h1,h2⟩:=hm r List.mem_cons_self;obtain⟨n1,n2⟩:=List.nodup_cons.1 hn;have hg:=fN (P:=X.P) h2 trivial;have hs:=iU (P:=X.P) (o:=.deferred none) h2 trivial;refine⟨by simp,.inl ⟨r,World.putObj w r (.deferred none),rfl,?_,?_⟩⟩
  ·simp[Instr.takeDeferred,hg,hs]
  ·refine tT rs _ (h.mark h2) n2 (fun r' hr'=>?_) (s.mark h2 h1) hR;obtain⟨k1,k2⟩:=hm r' (List.mem_cons_of_mem _ hr');exact⟨k1,by rw[cn (by rintro rfl;exact n1 hr')];exact k2⟩
end Go.Idl
namespace Go.Idl
open Classical
variable {X:Ctx}{N:Nat}{G:Gh}{st:St}{a:Act}{w:World}
structure TO (X:Ctx) (f:FuncId) (ifn:dJ) (fn:Func) (c:Code):Prop where
 at_:X.P.funcs[f]?=some fn
 body:fn.body=some c
 name:(fn.name == "runtime.NumGoroutine")=false
 code:CR X.P X.rows fn.ntmps X.T X.D c ifn.body
 rO:ifn.rO≤fn.ntmps
 yp:vO X.P fn.results.toList ifn.yp
theorem TO.calls {f:FuncId}{ifn:dJ}{fn:Func}{c:Code}(h:TO X f ifn fn c) (rs:List Value) (w:World):(callFunc f ⟨rs⟩).run X.P w=.ok (.enter f ⟨rs⟩) w:=by
 have hp:(program).run X.P w=.ok X.P w:=rfl;have hn:¬fn.name = "runtime.NumGoroutine" := by simpa using h.name
 simp[callFunc,hp,h.at_,hn,h.body]
theorem xn:∀(args:List IV) (k i:Nat) (v:IV) (c:cV),look (dQ k args) i=some (v,c)→c=.any∧∃j,i=k+j∧args[j]?=some v
 |[],k,i,v,c,h=>by cases h
 |x::args,k,i,v,c,h=>by
  rw[dQ,dZ] at h;split at h
  ·rename_i q;simp only[Option.some.injEq,Prod.mk.injEq] at h;obtain⟨rfl,rfl⟩:=h;exact⟨rfl,0,by omega,rfl⟩
  ·obtain⟨h1,j,h2,h3⟩:=xn args (k+1) i v c h;exact⟨h1,j+1,by omega,by simpa using h3⟩
theorem uf {m:IM}(hm:MR X G m w) (hw:WF X G w) (hl:∀k,G.lb k=none) {env:Env}(he:∀i v c,look env i=some (v,c)→VR G v (a.tmps.getD i undef)∧i<N∧c=.any) (hs:a.tmps.size=N) :
  SR X N G { env,lk:=[],lb:=[],m } a w where
 size:=hs
 env i v c e:=⟨SV.of (he i v c e).1,(he i v c e).2.1⟩
 own i v sz e:=by cases (he i v _ e).2.2
 lk i l e:=by simp at e
 lb k e:=absurd rfl e
 dE k cs cp off sz e:=by cases e
 dO k b e:=by rw[hl k] at e;cases e
 mr:=hm
 wf:=hw
theorem E4 {vs:List IV}{rs:List Value}(h:nY G vs rs) (hd:∃k,(RU vs).ak=some k):VR G (RU vs) (UI rs):=by
 obtain⟨k,hk⟩:=hd;have db:∀(us:List IV) (j:Nat),IV.ak.go us=some j→∀u∈us,u.jO=false:=by
  intro us
  induction us with
  |nil=>intro j _ u hu;simp at hu
  |cons x us ih =>
   intro j hj u hu;simp only[IV.ak.go] at hj;split at hj
   ·rename_i p q e1 e2;rcases List.mem_cons.1 hu with rfl | hu
    ·cases u<;>first | rfl | (simp[IV.refs,IV.plain] at e1)
    ·exact ih q e2 u hu
   ·cases hj
 have vrs:(∀u∈vs,u.jO=false)→c9 G vs rs:=fun q=>c9.ku h.1 (fun i v r e1 e2=>(h.2 i v r e1 e2).vr (q v (List.mem_of_getElem? e1)))
 match vs,rs,h with
 |[],rs,h =>have:=h.u5;subst this;exact VR.Dz c9.nil
 |[x],rs,h =>obtain⟨r,rs',rfl,h1,h2⟩:=h.cons_inv;have:=h2.u5;subst this;exact h1.vr (p9 hk)
 |x::y::xs,rs,h =>obtain⟨r,rs',rfl,h1,h2⟩:=h.cons_inv;obtain⟨r',rs'',rfl,h3,h4⟩:=h2.cons_inv;exact VR.Dz (vrs (db _ k hk))
theorem Dg {m m' m2:IM}{v v':IV}(h:settle m m' v=some (v',m2)):∃k,v.ak=some k:=by
 unfold settle at h;split at h
 ·rename_i k _ e _;exact⟨k,e⟩
 ·cases h
theorem J5 (hD:vv X) {call:bW}(hc:kV X call) (hk:dK call) {loop:kH}(hl:vM X loop) (hlk:lI loop) {f:FuncId}{ifn:dJ}{fn:Func}{c:Code}(hf:TO X f ifn fn c)
  {args:List IV}{m m':IM}{v:IV}(hr:ifn.call call loop args m=some (v,m')) {rs:List Value}(hm:MR X G m w) (hw:WF X G w) (hlb:∀k,G.lb k=none) (ha:c9 G args rs):qg X f rs w (mV X G w m' v):=by
 refine⟨hf.calls rs w,?_⟩;unfold dJ.call at hr;split at hr
 ·cases hr
 ·rename_i hlen;have hlen:args.length=ifn.rO:=by simpa using hlen
  split at hr
  ·rename_i e st1 e1;split at hr
   ·rename_i hex;have hsz:rs.length=ifn.rO:=by rw[ha.1,hlen]
    have hn:=hf.rO;refine callsIn_of_wp_marks hf.at_ hf.body trivial ?_;have hstart:SR X fn.ntmps G { env:=dQ 0 args,lk:=[],lb:=[],m } { tmps:=⟨rs⟩++Array.replicate (fn.ntmps-(Array.mk rs).size) undef,defers:=[]} w:=by
     refine uf hm hw hlb (fun i v c q=>?_) (by simp;omega);obtain⟨q1,j,q2,q3⟩:=xn _ _ _ _ _ q;rw[Nat.zero_add] at q2;subst q2;obtain⟨hi,_⟩:=List.getElem?_eq_some_iff.1 q3;obtain⟨r,q4,q5⟩:=ha.get q3;refine⟨?_,by omega,q1⟩;have:(⟨rs⟩++Array.replicate (fn.ntmps-(Array.mk rs).size) undef:Array Value).getD i undef=r:=by rw[Array.getD_eq_getD_getElem?,Array.getElem?_append_left (by simp;omega)];simp[q4]
     rw[this];exact q5
    have hat:At X fn.ntmps none w.heap.size G { env:=dQ 0 args,lk:=[],lb:=[],m } { tmps:=⟨rs⟩++Array.replicate (fn.ntmps-(Array.mk rs).size) undef,defers:=[]} w :=
     ⟨hstart,(fun l q=>by cases q),⟨[],rfl,List.nodup_nil,fun r q=>by simp at q⟩,Nat.le_refl _⟩
    refine lU (ro:=none) hD hc hk hl hf.code hat e1 ?_;intro G1 a1 w1 k1 s1;have hkeep:=fy hk hlk _ e1;have fin:LeavesInM Fence.wide 0 X.P fn a1.tmps (fun e w'=>∃r,e=.returned r∧mV X G w m' v r w') a1.defers .returning w1:=by
     obtain⟨rs',d1,d2,d3⟩:=k1.df;rw[d1];refine tT rs' w1 k1.sr d2 (fun r hr=>⟨(d3 r hr).1,(d3 r hr).2.1⟩) s1 ?_;intro w' h' s'
     cases eret:cY st1 ifn.yp with
     |none=>rw[eret] at hr;cases hr
     |some vs =>
      rw[eret] at hr;obtain⟨rvs,h1,h2⟩:=yo h' hf.yp eret;refine⟨_,h2,_,rfl,?_⟩;have hset:settle m st1.m (RU vs)=some (v,m'):=by
       match vs,hr with
       |[],hr=>exact hr
       |[x],hr=>exact hr
       |x::y::xs,hr=>exact hr
      exact r5 hm s' h'.mr h'.wf hkeep hset (E4 h1 (Dg hset))
    rcases hex with rfl | rfl
    ·exact fin
    ·exact fin
   ·cases hr
  ·cases hr
theorem ub:∀(ps:List Nat) (vs:List IV) (rs:List Value) (env:Env) (tm:Array Value),c9 G vs rs→(∀i v c,look env i=some (v,c)→VR G v (tm.getD i undef)∧i<tm.size∧c=.any)→(∀p∈ps,p<tm.size)→vs.length=ps.length →
  ((ps.zip rs).foldl (fun t (p:Nat×Value)=>t.setIfInBounds p.1 p.2) tm).size=tm.size ∧
  ∀i v c,look (oQ env ps vs) i=some (v,c)→VR G v (((ps.zip rs).foldl (fun t (p:Nat×Value)=>t.setIfInBounds p.1 p.2) tm).getD i undef)∧i<tm.size∧c=.any
 |[],vs,rs,env,tm,h,he,hp,hl=>by
  have:vs=[]:=List.length_eq_zero_iff.1 (by simpa using hl);subst this;exact⟨rfl,fun i v c q=>he i v c q⟩
 |p::ps,[],rs,env,tm,h,he,hp,hl=>by simp at hl
 |p::ps,v::vs,rs,env,tm,h,he,hp,hl=>by
  obtain⟨r,rs',rfl,h1,h2⟩:=h.jw;have hpl:=hp p List.mem_cons_self;obtain⟨k1,k2⟩:=ub ps vs rs' ((p,v,.any)::env) (tm.setIfInBounds p r) h2 (fun i u c q=>by
   rw[dZ] at q;simp only[Array.size_setIfInBounds];split at q
   ·rename_i e;subst e;simp only[Option.some.injEq,Prod.mk.injEq] at q;obtain⟨rfl,rfl⟩:=q;refine⟨?_,hpl,rfl⟩;rw[Array.getD_eq_getD_getElem?,Array.getElem?_setIfInBounds_self_of_lt hpl];exact h1
   ·rename_i e;obtain⟨q1,q2,q3⟩:=he i u c q;refine⟨?_,q2,q3⟩;rw[Array.getD_eq_getD_getElem?,Array.getElem?_setIfInBounds_ne e,←Array.getD_eq_getD_getElem?];exact q1) (fun q hq=>by simpa using hp q (List.mem_cons_of_mem _ hq)) (by simpa using hl)
  simp only[Array.size_setIfInBounds] at k1 k2;exact⟨by simpa using k1,by simpa[oQ] using k2⟩
end Go.Idl
namespace Go.Idl
open Classical
variable {X:Ctx}{N:Nat}{G:Gh}{st:St}{a:Act}{w:World}
def mP:Ex→Option Code
 |.normal=>none
 |.ret=>some .ret
 |.exit i=>some (.exit i)
theorem Hz (e:Ex):mP e=jmp (w5 e):=by cases e<;>rfl
theorem C9 (hD:vv X) {call:bW}(hc:kV X call) (hk:dK call) {loop:kH}(hl:vM X loop) (hlk:lI loop) {r:mX}{id fn site b0 j0:Nat}{tm:Env}{m m':IM}(hget:m.get id=.loop b0 fn site tm j0)
  (hrnd:X.T.EW fn site=some r) {args:List IV}{v:IV}(hr:r.call call loop id tm args m=some (v,m')) {rs:List Value}(hm:MR X G m w) (hw:WF X G w) (hlb:∀k,G.lb k=none) (ha:c9 G args rs) :
  ∀b,G.bx id=some b→qh X b rs w (mV X G w m' v):=by
 intro b hb;obtain⟨b',ro,k1,k2,k3⟩:=hm.bx id (by rw[hget];simp);rw[hb] at k1;simp only[Option.some.injEq] at k1;subst k1;rw[hget] at k3
 cases k3 with
 |loop _ _ _ _ _ L r2 d1 d2 d3 d4 d5 d6 d7 d8 d9 =>
  rw[hrnd] at d1;simp only[Option.some.injEq] at d1;subst d1;unfold mX.call at hr;split at hr
  ·cases hr
  ·rename_i hlen;have hlen:args.length=r.ps.length:=by simpa using hlen
   have hrl:rs.length=L.params.size:=by rw[ha.1,hlen,←d2];simp
   have hgl:=fN (P:=X.P) k2 trivial;refine⟨L.fn,(L.params.zip ⟨rs⟩).foldl (fun tmps (t,a)=>tmps.setIfInBounds t a) L.tmps,L.assign,L.body,?_,?_⟩
   ·simp[Instr.yield,Instr.getLoop,hgl,hrl]
   ·split at hr
    ·rename_i st1 e1;have hfold:(L.params.zip ⟨rs⟩).foldl (fun tmps (t,a)=>tmps.setIfInBounds t a) L.tmps=(r.ps.zip rs).foldl (fun t (p:Nat×Value)=>t.setIfInBounds p.1 p.2) L.tmps:=by rw[←Array.foldl_toList,Array.toList_zip,d2]
     obtain⟨q1,q2⟩:=ub r.ps args rs tm L.tmps ha (fun i v c q=>⟨(d6 i v c q).1,(d6 i v c q).2,d7 i v c q⟩) d3 hlen;rw[hfold];refine roundIn_of_wpIn (F:=Fence.wide) trivial ?_;have hstart:SR X L.tmps.size G { env:=oQ tm r.ps args,lk:=[],lb:=[],m } { tmps:=(r.ps.zip rs).foldl (fun t (p:Nat×Value)=>t.setIfInBounds p.1 p.2) L.tmps,defers:=[]} w :=
      uf hm hw hlb q2 q1
     have hat:At X L.tmps.size (some b) w.heap.size G { env:=oQ tm r.ps args,lk:=[],lb:=[],m } { tmps:=(r.ps.zip rs).foldl (fun t (p:Nat×Value)=>t.setIfInBounds p.1 p.2) L.tmps,defers:=[]} w :=
      ⟨hstart,(fun l q=>by cases q;exact⟨L,k2⟩),⟨[],rfl,List.nodup_nil,fun r q=>by simp at q⟩,Nat.le_refl _⟩
     refine lU (ro:=some b) hD hc hk hl d4 hat e1 ?_;intro G1 a1 w1 t1 s1;have kp1:=fy hk hlk _ e1;split at hr
     ·rename_i f1 s1' tm1 j1 eg1;split at hr
      ·rename_i m1 ep1;obtain⟨c1,ro1,c2,c3,c4⟩:=t1.sr.mr.bx id (by rw[eg1];simp);have hb1:=s1.bx _ _ hb;rw[hb1] at c2;simp only[Option.some.injEq] at c2;subst c2;rw[eg1] at c4
       cases c4 with
       |loop _ _ _ _ _ L1 r1 x1 x2 x3 x4 x5 x6 x7 x8 x9 =>
        have hg1:=fN (P:=X.P) c3 trivial;have hs1:=iU (P:=X.P) (o:=.loop { L1 with state:=.busy }) c3 trivial;have hopn1:=t1.sr.mr.p8 (by rw[eg1];simp) hb1;refine⟨World.putObj w1 b (.loop { L1 with state:=.busy }),?_,?_⟩
        ·have x8':L1.state=.ready:=x8;simp[Instr.beginRound,Instr.getLoop,hg1,hs1,x8']
        ·have s2:Step G1 w1 G1 (World.putObj w1 b (.loop { L1 with state:=.busy })):=Step.putObj c3 (fun _ _=>⟨_,rfl⟩) hopn1;have hsr2:=(t1.sr.Oi (o:=.loop { L1 with state:=.busy }) (x':=.loop 2 f1 s1' tm1 j1) (by rw[eg1];simp) hb1 c3 trivial trivial (.loop 2 f1 s1' tm1 j1 { L1 with state:=.busy } r1 x1 x2 x3 x4 x5 x6 x7 rfl x9) ep1).PV (lk:=[]) (by simp);have hat2:At X L.tmps.size (some b) w.heap.size G1 { st1 with m:=m1,lk:=[]} a1 (World.putObj w1 b (.loop { L1 with state:=.busy })) :=
          ⟨hsr2,t1.Vm.step s2,t1.df.step s2,Nat.le_trans t1.le s2.size⟩
         split at hr
         ·rename_i e st2 e2;refine lU (ro:=some b) hD hc hk hl d5 hat2 e2 ?_;intro G3 a3 w3 t3 s3;have kp2:=fy hk hlk _ e2;split at hr
          ·rename_i f2 s2' tm2 j2 eg2;split at hr
           ·rename_i m2 ep2;have hb3:=s3.bx _ _ hb1;obtain⟨c1',ro3,y2,y3,y4⟩:=t3.sr.mr.bx id (by rw[eg2];simp);rw[hb3] at y2;simp only[Option.some.injEq] at y2;subst y2;rw[eg2] at y4
            cases y4 with
            |loop _ _ _ _ _ L3 r3 z1 z2 z3 z4 z5 z6 z7 z8 z9 =>
             have hg3:=fN (P:=X.P) y3 trivial;obtain⟨o3,ho3⟩:∃o3:Loop,o3={ L3 with state:=if (mP e).isNone then .ready else .done,pending:=mP e }:=⟨_,rfl⟩
             have hs3:=iU (P:=X.P) (o:=.loop o3) y3 trivial;have hopn3:=t3.sr.mr.p8 (by rw[eg2];simp) hb3;have s4:Step G3 w3 G3 (World.putObj w3 b (.loop o3)):=Step.putObj y3 (fun _ _=>⟨_,rfl⟩) hopn3;have hor:eK X G3 (.loop (if w5 e=0 then 0 else 1) f2 s2' tm2 (w5 e)) (.loop o3):=by
              refine .loop _ f2 s2' tm2 (w5 e) o3 r3 z1 ?_ ?_ ?_ ?_ ?_ z7 ?_ ?_
              ·rw[ho3];exact z2
              ·rw[ho3];exact z3
              ·rw[ho3];exact z4
              ·rw[ho3];exact z5
              ·rw[ho3];exact z6
              ·rw[ho3];cases e<;>rfl
              ·rw[ho3];exact Hz e
             have hsr4:=t3.sr.Oi (o:=.loop o3) (by rw[eg2];simp) hb3 y3 trivial trivial hor ep2;have sAll:Step G w G3 (World.putObj w3 b (.loop o3)):=s1.trans (s2.trans (s3.trans s4));have kAll:fD m m2:=by refine kp1.trans ((fD.qJ ep1 (fun n hn q=>by rw[eg1] at q;exact q)).trans (kp2.trans (fD.qJ ep2 (fun n hn q=>by rw[eg2] at q;exact q))))
             have hv:VR G3 (.bool (w5 e==0)) (.bool (mP e).isNone):=by
              have:(mP e).isNone=(w5 e==0):=by cases e<;>rfl
              rw[this];exact VR.bool _
             have haft:mV X G w m' v (.bool (mP e).isNone) (World.putObj w3 b (.loop o3)):=r5 hm sAll hsr4.mr hsr4.wf kAll hr hv;have hend:(Instr.endRound b (mP e)).run X.P w3=.ok (.bool (mP e).isNone) (World.putObj w3 b (.loop o3)):=by
              have:(setObj b (.loop { L3 with state:=if (mP e).isNone then .ready else .done,pending:=mP e })).run X.P w3=.ok () (World.putObj w3 b (.loop o3)):=by rw[←ho3];exact hs3
              simp only[Instr.endRound,Instr.getLoop,Sem.run_bind,hg3,Result.andThen_ok,Sem.run_pure,this]
             cases e with
             |normal=>exact⟨_,_,hend,_,rfl,haft⟩
             |ret=>exact⟨_,_,hend,_,rfl,haft⟩
             |exit i=>exact⟨_,_,hend,_,rfl,haft⟩
           ·cases hr
          ·cases hr
         ·cases hr
      ·cases hr
     ·cases hr
    ·cases hr
def I5 (X:Ctx) (al:vN):Prop:=∀f p,al f=some p→∀args v,p args=some v→(∀id,IV.nT id∉args) ∧
 ∀G m w rs,MR X G m w→WF X G w→(∀k,G.lb k=none)→c9 G args rs→Reach X f rs w (mV X G w m v)
theorem zt (hD:vv X) {al:vN}(hp:I5 X al) (hT:∀f ifn,X.T.fns f=some ifn→∃fn c,TO X f ifn fn c):∀k,kV X (jc X.T al k).call∧vM X (jc X.T al k).loop
 |0=>by
  refine⟨fun c args m v m' h=>?_,0,fun hd b st e st' h=>?_⟩
  ·simp[jc] at h
  ·simp[jc] at h
 |k+1=>by
  obtain⟨h1,h2⟩:=zt hD hp hT k;obtain⟨k1,k2⟩:=Dc X.T al k;obtain⟨m,hm⟩:=h2;have h2:vM X (jc X.T al k).loop:=⟨m,hm⟩
  refine⟨fun c args m v m' h G w rs hm hw hlb ha=>?_,m+1,fun hd b st e st' h=>?_⟩
  ·simp only[jc] at h;split at h
   ·rename_i f;split at h
    ·rename_i p ep;obtain⟨x,ex,e⟩:=Option.map_eq_some_iff.1 h;simp only[Prod.mk.injEq] at e;obtain⟨rfl,rfl⟩:=e;obtain⟨q1,q2⟩:=hp f p ep args x ex;exact⟨q2 G m w rs hm hw hlb ha,fun⟨id,q⟩=>absurd q (q1 id)⟩
    ·split at h
     ·rename_i ifn ef;obtain⟨fn,c,hf⟩:=hT f ifn ef;have:=J5 hD h1 k1 h2 k2 hf h hm hw hlb ha;exact⟨.inl this,fun _=>this⟩
     ·cases h
   ·rename_i id;split at h
    ·rename_i b0 fn site tm j0 eg;split at h
     ·rename_i r er;exact C9 hD h1 k1 h2 k2 eg er h hm hw hlb ha
     ·cases h
    ·cases h
  ·intro c N ro base Q G a w hR hat hQ;simp only[jc] at h;split at h
   ·cases h
   ·rename_i st1 eh;obtain⟨G1,g1,g2⟩:=El hat.sr eh;have hat1:At X N ro base G1 st1 a w:=⟨g1,hat.Vm.step g2,hat.df.step g2,hat.le⟩
    have hQ1:=hQ.step g2;rw[roundsIn_succ];split at h
    ·rename_i st2 er;refine lU hD h1 k1 h2 hR hat1 er ?_;intro G2 a2 w2 t2 s2;exact hm _ _ _ _ _ h c N ro base Q G2 a2 w2 hR t2 (hQ1.step s2)
    ·rename_i hne;refine lU hD h1 k1 h2 hR hat1 h ?_;intro G2 a2 w2 t2 s2;have:=hQ1 G2 a2 w2 t2 s2
     cases e with
     |normal=>exact absurd h (fun q=>hne st' q)
     |exit i=>exact this
     |ret=>exact this
end Go.Idl
namespace Go.Idl
structure Ab where
 e:Nat→Option (IV×cV)
 k:Nat→Option Loc
 b:Nat→aS
 m:IM
def St.ab (st:St):Ab:=⟨look st.env,aU st.lk,aQ st.lb,st.m⟩
def Uq (lk:List (Nat×Loc)):Prop:=∀i l l',(i,l)∈lk→(i,l')∈lk→l=l'
theorem E9:∀{lk:List (Nat×Loc)},j8 lk=true→Uq lk
 |[],_=>fun _ _ _ h=>by cases h
 |(j,l0)::r,h=>by
  have h:j8 r=true∧∀x∈r,¬Nat.beq x.1 j=true:=by
   simp only[j8] at h;split at h
   ·rename_i e;simp only[Bool.not_eq_true',List.any_eq_false] at h;exact⟨e,h⟩
   ·cases h
  intro i l l' h1 h2;have hn:∀l,(j,l)∉r:=fun l hm=>by
   have:=h.2 _ hm;simp at this
  rcases List.mem_cons.1 h1 with e1 | h1<;>rcases List.mem_cons.1 h2 with e2 | h2
  ·cases e1;cases e2;rfl
  ·cases e1;exact absurd h2 (hn _)
  ·cases e2;exact absurd h1 (hn _)
  ·exact E9 h.1 i l l' h1 h2
theorem oJ {j:Nat}{l:Loc}{r:List (Nat×Loc)}{i:Nat}:aU ((j,l)::r) i=if j=i then some l else aU r i:=by
 rw[aU];by_cases h:j=i
 ·subst h;simp
 ·have:Nat.beq j i=false:=by
   cases hb:Nat.beq j i with
   |false=>rfl
   |true=>exact absurd (Nat.eq_of_beq_eq_true hb) h
  simp[this,h]
theorem iS:∀{lk:List (Nat×Loc)}{i:Nat}{l:Loc},aU lk i=some l→(i,l)∈lk
 |[],_,_,h=>by cases h
 |(j,l0)::r,i,l,h=>by
  rw[oJ] at h;split at h
  ·rename_i e;cases h;subst e;exact List.mem_cons_self
  ·exact List.mem_cons_of_mem _ (iS h)
theorem nP:∀{lk:List (Nat×Loc)}{i:Nat}{l:Loc},(i,l)∈lk→∃l',aU lk i=some l'
 |(j,l0)::r,i,l,h=>by
  rw[oJ];split
  ·exact⟨_,rfl⟩
  ·rename_i e;rcases List.mem_cons.1 h with q | q
   ·cases q;exact absurd rfl e
   ·exact nP q
theorem Uq.aU {lk:List (Nat×Loc)}(hu:Uq lk) {i:Nat}{l:Loc}(h:(i,l)∈lk):aU lk i=some l:=by obtain⟨l',e⟩:=nP h;rw[e,hu i l l' h (iS e)]
theorem Uq.filter {lk:List (Nat×Loc)}(hu:Uq lk) (p:Nat×Loc→Bool):Uq (lk.filter p) :=
 fun i l l' h1 h2=>hu i l l' (List.mem_filter.1 h1).1 (List.mem_filter.1 h2).1
theorem jn {lk:List (Nat×Loc)}(hu:Uq lk) (p:Nat→Loc→Bool) (i:Nat):Idl.aU (lk.filter fun q=>p q.1 q.2) i=(Idl.aU lk i).filter (p i):=by
 cases e:Idl.aU lk i with
 |none =>
  simp only[Option.filter_none]
  cases e2:Idl.aU (lk.filter fun q=>p q.1 q.2) i with
  |none=>rfl
  |some l =>obtain⟨l',h⟩:=nP (List.mem_filter.1 (iS e2)).1;rw[e] at h;cases h
 |some l =>
  cases hp:p i l with
  |true =>rw[(hu.filter _).aU (List.mem_filter.2 ⟨iS e,hp⟩)];simp[Option.filter,hp]
  |false =>
   simp only[Option.filter,hp]
   cases e2:Idl.aU (lk.filter fun q=>p q.1 q.2) i with
   |none=>rfl
   |some l' =>
    obtain⟨h1,h2⟩:=List.mem_filter.1 (iS e2);rw[hu i l' l h1 (iS e),hp] at h2
    cases h2
def iY (d i:Nat) (l:Loc):Bool:=!(Nat.beq i d) && !(match l with | .slot j=>Nat.beq j d | _=>false)
theorem qk {i j:Nat}(h:i≠j):Nat.beq i j=false:=by
 cases hb:Nat.beq i j with
 |false=>rfl
 |true=>exact absurd (Nat.eq_of_beq_eq_true hb) h
theorem jH (d:Nat):∀lk:List (Nat×Loc),aR d lk=lk.filter fun q=>iY d q.1 q.2
 |[]=>rfl
 |(i,l)::r=>by
  have ih:=jH d r;by_cases h:i=d
  ·cases l<;>simp[aR,h,iY,ih]
  ·cases l with
   |slot j =>
    by_cases h2:j=d
    ·simp[aR,h,h2,iY,ih]
    ·simp[aR,h,h2,iY,ih,qk h,qk h2]
   |_=>simp[aR,h,iY,ih,qk h]
def NN (k:Nat) (l:Loc):Bool:=!(match l with | .L j _=>Nat.beq j k | _=>false)
theorem ta (d:Nat):∀lk:List (Nat×Loc),kU d lk=lk.filter fun q=>NN d q.2
 |[]=>rfl
 |(i,l)::r=>by
  have ih:=ta d r
  cases l with
  |L j o =>
   by_cases h2:j=d
   ·simp[kU,h2,NN,ih]
   ·simp[kU,h2,NN,ih,qk h2]
  |_=>simp[kU,NN,ih]
def M7 (f:Nat→Bool) (l:Loc):Bool:=!(match l with | .B id _=>f id | _=>false)
theorem sZ (f:Nat→Bool):∀lk:List (Nat×Loc),kT f lk=lk.filter fun q=>M7 f q.2
 |[]=>rfl
 |(i,l)::r=>by
  have ih:=sZ f r
  cases l with
  |B j o=>cases h:f j<;>simp[kT,h,M7,ih]
  |_=>simp[kT,M7,ih]
def Jj (f:Nat→Bool) (l:Loc):Bool:=!(match l with | .B id _=>f id | .marked=>true | _=>false)
theorem AO (f:Nat→Bool):∀lk:List (Nat×Loc),je f lk=lk.filter fun q=>Jj f q.2
 |[]=>rfl
 |(i,l)::r=>by
  have ih:=AO f r
  cases l with
  |B j o=>cases h:f j<;>simp[je,h,Jj,ih]
  |_=>simp[je,Jj,ih]
structure Diff where
 dst:Option (Nat×IV×cV×Option Loc):=none
 dr:Nat→Bool:=fun _=>false
 kp:Nat→Loc→Bool:=fun _ _=>true
 bs:Option (Nat×aS):=none
 m:Option IM:=none
def Diff.app (D:Diff) (s:Ab):Ab where
 e i:=match D.dst with
  |some (d,v,c,_)=>if d=i then some (v,c) else if D.dr i then (s.e i).map (fun p=>(p.1,.any)) else s.e i
  |none=>if D.dr i then (s.e i).map (fun p=>(p.1,.any)) else s.e i
 k i:=match D.dst with
  |some (d,_,_,l)=>if d=i then l else (s.k i).filter (D.kp i)
  |none=>(s.k i).filter (D.kp i)
 b i:=match D.bs with
  |some (k,o)=>if k=i then o else s.b i
  |none=>s.b i
 m:=D.m.getD s.m
theorem Diff.fQ (s:Ab):({}:Diff).app s=s:=by
 cases s with
 |mk e k b m =>
  have:(fun i=>(k i).filter fun _=>true)=k:=by funext i;cases k i<;>rfl
  simp[Diff.app,this]
def Diff.put (D:Diff) (d:Nat) (v:IV) (c:cV) (l:Option Loc):Diff :=
 {D with dst:=some (d,v,c,l),kp:=fun i l'=>iY d i l'&&D.kp i l' }
theorem filter_filter {α:Type}(o:Option α) (p q:α→Bool):(o.filter p).filter q=o.filter fun x=>q x&&p x:=by
 cases o with
 |none=>rfl
 |some x=>cases hp:p x<;>cases hq:q x<;>simp[Option.filter,hp,hq]
theorem filter_congr {α:Type}(o:Option α) (p q:α→Bool) (h:∀x,o=some x→p x=q x):o.filter p=o.filter q:=by
 cases o with
 |none=>rfl
 |some x=>simp[Option.filter,h x rfl]
theorem Bf {st st':St}{d:Nat}{v:IV}{c:cV}(hu:Uq st.lk) (h:st.put (some d) v c=some st') {s0:Ab}{D:Diff}(hD:D.dst=none) (hs:st.ab=D.app s0) :
  st'.ab=(D.put d v c none).app s0∧Uq st'.lk:=by
 simp only[St.put,aK,ck,Option.some.injEq] at h;subst h;have hl:aR d st.lk=st.lk.filter fun q=>iY d q.1 q.2:=jH d st.lk;refine⟨?_,by rw[hl];exact hu.filter _⟩;have he:look st.env=(D.app s0).e:=congrArg Ab.e hs;have hk:Idl.aU st.lk=(D.app s0).k:=congrArg Ab.k hs;have hb:aQ st.lb=(D.app s0).b:=congrArg Ab.b hs;have hm:st.m=(D.app s0).m:=congrArg Ab.m hs;simp only[St.ab,hb,hm,hl];simp only[Diff.app,Diff.put,Ab.mk.injEq];refine⟨?_,?_,trivial,trivial⟩
 ·funext i;rw[dZ,he];simp only[Diff.app,hD];rfl
 ·funext i;rw[jn hu,hk];simp only[Diff.app,hD];split
  ·rename_i e;subst e;rw[filter_filter]
   cases s0.k d with
   |none=>rfl
   |some l=>simp[Option.filter,iY]
  ·rw[filter_filter]
theorem Gb {st:St}{d:Nat}{l:Loc}{s0:Ab}{D:Diff}{v:IV}{c:cV}(hu:Uq st.lk) (hs:st.ab=(D.put d v c none).app s0) :
  ({ st with lk:=(d,l)::st.lk }:St).ab=(D.put d v c (some l)).app s0∧Uq ((d,l)::st.lk):=by
 have hk:Idl.aU st.lk=((D.put d v c none).app s0).k:=congrArg Ab.k hs;have hd:Idl.aU st.lk d=none:=by rw[hk];simp[Diff.app,Diff.put]
 have hn:∀l',(d,l')∉st.lk:=fun l' hm=>by
  obtain⟨l2,e⟩:=nP hm;rw[hd] at e;cases e
 constructor
 ·have he:look st.env=((D.put d v c none).app s0).e:=congrArg Ab.e hs;have hb:aQ st.lb=((D.put d v c none).app s0).b:=congrArg Ab.b hs;have hm:st.m=((D.put d v c none).app s0).m:=congrArg Ab.m hs;simp only[St.ab,he,hb,hm];simp only[Diff.app,Diff.put,Ab.mk.injEq];refine⟨by funext i;rfl,?_,trivial,trivial⟩;funext i;rw[oJ,hk];simp only[Diff.app,Diff.put];split<;>simp_all
 ·intro i l1 l2 h1 h2;rcases List.mem_cons.1 h1 with e1 | h1<;>rcases List.mem_cons.1 h2 with e2 | h2
  ·cases e1;cases e2;rfl
  ·cases e1;exact absurd h2 (hn _)
  ·cases e2;exact absurd h1 (hn _)
  ·exact hu i l1 l2 h1 h2
end Go.Idl
namespace Go.Idl
def Arg.sl:Arg→List Nat
 |.t i=>[i]
 |.c _=>[]
def ju:List Arg→List Nat
 |[]=>[]
 |a::r=>a.sl++ju r
def IK.rd:IK→List Nat
 |.mv x _ _=>x.sl
 |.p _ as=>ju as
 |.same x=>x.sl
 |.load _ _ a _=>a.sl
 |.store _ a v _=>a.sl++v.sl
 |.bX ..=>[]
 |.iv ..=>[]
 |.f5 _ _ x=>x.sl
 |.nZ _ x=>x.sl
 |.buildSlice _ _ _ _ as=>ju as
 |.fb x=>x.sl
 |.me _ _ _ l c=>l.sl++c.sl
 |.kO _ _ _ l c=>l.sl++c.sl
 |.append _ _ s x=>s.sl++x.sl
 |.copy _ d s=>d.sl++s.sl
 |.aj _ as h=>ju as++ju h
 |.fH g as h=>g.sl++(ju as++ju h)
 |.mkMap=>[]
 |.lookup _ _ _ m k=>m.sl++k.sl
 |.jy _ m k v=>m.sl++(k.sl++v.sl)
 |.kt m=>m.sl
 |.fa _ x=>x.sl
 |.ee a=>a.sl
def IK.dr:IK→cW→List Nat
 |.mv (.t i) true _,_=>[i]
 |.store _ _ (.t i) true,_=>[i]
 |.same (.t i),_=>[i]
 |.append _ _ (.t i) _,.slot j=>[i,j]
 |.append _ _ (.t i) _,_=>[i]
 |_,_=>[]
def IK.bx:IK→cW→Option (List Nat)
 |.load ..,.own k=>some [k]
 |.load ..,.dB=>some []
 |.load ..,.cd _=>some []
 |.load ..,.mem=>some []
 |.load ..,_=>none
 |.store ..,.own k=>some [k]
 |.store ..,.mem=>some []
 |.store ..,_=>none
 |.bX k ..,_=>some [k]
 |.f5 k ..,_=>some [k]
 |.fa k _,_=>some [k]
 |.ee _,.own k=>some [k]
 |.ee _,_=>none
 |.append ..,.own k=>some [k]
 |.append ..,.slot _=>some []
 |.append ..,.mem=>some []
 |.append ..,_=>none
 |_,_=>some []
def IK.mem:IK→cW→Bool
 |.load ..,.own _=>false
 |.load ..,.dB=>false
 |.load ..,.cd _=>false
 |.load ..,_=>true
 |.store ..,.own _=>false
 |.store ..,_=>true
 |.mv ..,_ | .p ..,_ | .same _,_ | .bX ..,_ | .f5 ..,_ | .buildSlice ..,_ | .fb _,_ | .me ..,_ | .fa ..,_ | .ee _,_=>false
 |_,_=>true
def IK.UA:IK→Option Nat
 |.same (.t i)=>some i
 |.append _ _ (.t i) _=>some i
 |_=>none
def IK.NV:IK→cW→Loc→Bool
 |.append ..,.none,_=>true
 |.append ..,t,l=>t.gC l
 |_,_,l=>match l with | .marked=>true | _=>false
def IK.nS:IK→cW→Bool
 |.append ..,.none=>true
 |_,_=>false
structure gk (k:IK) (t:cW) (s s2:Ab):Prop where
 e:∀i∈k.rd,s.e i=s2.e i
 lk:∀i,k.UA=some i→(s.k i).filter (k.NV t)=(s2.k i).filter (k.NV t)
 b:∀j,(∀l,k.bx t=some l→j∈l)→s.b j=s2.b j
 m:k.mem t=true→s.m=s2.m
 j:∀j,t=.slot j→s.e j=s2.e j
 w:k.nS t=true→s=s2
 h:∀h,t=.cd h→s.e h=s2.e h∧∀id off c,s.e h=some (.pB id off,c)→s.m.get id=s2.m.get id
theorem gk.So {k:IK}{t:cW}{s:Ab}:gk k t s s:=⟨fun _ _=>rfl,fun _ _=>rfl,fun _ _=>rfl,fun _=>rfl,fun _ _=>rfl,fun _=>rfl,fun _ _=>⟨rfl,fun _ _ _ _=>rfl⟩⟩
def IK.tQ:IK→cW→Loc→Bool
 |.store ..,.own k,.L j _=>Nat.beq j k
 |.store ..,.own _,_=>false
 |.store ..,.mem,.B _ _=>true
 |.store ..,.mem,_=>false
 |.store ..,_,.L _ _=>true
 |.store ..,_,.B _ _=>true
 |.store ..,_,_=>false
 |.copy ..,_,.B _ _=>true
 |.aj ..,_,.marked=>true
 |.fH ..,_,.marked=>true
 |.aj ..,_,.B _ _=>true
 |.fH ..,_,.B _ _=>true
 |_,_,_=>false
def IK.ly:IK→Bool
 |.mv .. | .p .. | .load .. | .bX .. | .f5 .. | .buildSlice .. | .fb _ | .me .. | .fa ..=>true
 |_=>false
def IK.fk:IK→List Arg
 |.aj _ _ h=>h
 |.fH _ _ h=>h
 |_=>[]
def IK.jx:IK→Bool
 |.aj ..=>true
 |.fH ..=>true
 |_=>false
structure mM (k:IK) (t:cW) (s:Ab) (D:Diff):Prop where
 dst:D.dst=none
 dr:∀i,D.dr i=true→i∈k.dr t∨k.nS t=true
 kp:∀i l,D.kp i l=false→i∈k.dr t∨(∃j∈k.dr t,l=.slot j)∨k.tQ t l=true∨k.nS t=true
 bs:∀j o,D.bs=some (j,o)→(∀l,k.bx t=some l→j∈l)∧∀a b c d,k ≠ .load a b c d
 m:D.m≠none→k.ly=false∧k.mem t=true
 cd:∀m',D.m=some m'→k.jx=true→∀i id off c,Arg.t i∈k.fk→s.e i=some (.pB id off,c)→m'.get id=s.m.get id
 Hx:k.jx=true→∀i id off c,Arg.t i∈k.fk→s.e i=some (.pB id off,c)→∀i' o,D.kp i' (.B id o)=true
def ug (call:bW) (k:IK) (t:cW):Prop:=∀(st:St) (v:IV) (c:cV) (st1:St),Uq st.lk→k.run call st=some (v,c,st1)→k.ok t st=true →
 ∃D:Diff,mM k t st.ab D∧st1.ab=D.app st.ab∧Uq st1.lk∧∀st2:St,Uq st2.lk→gk k t st.ab st2.ab →
  k.ok t st2=true∧∃st3,k.run call st2=some (v,c,st3)∧st3.ab=D.app st2.ab∧Uq st3.lk
theorem dm {e e2:Env}{a:Arg}(h:∀i∈a.sl,look e i=look e2 i):a.rd e2=a.rd e:=by
 cases a with
 |c v=>rfl
 |t i=>simp only[Arg.rd,h i (by simp[Arg.sl])]
theorem jJ {e e2:Env}:∀{as:List Arg},(∀i∈ju as,look e i=look e2 i)→de e2 as=de e as
 |[],_=>rfl
 |a::r,h=>by
  simp only[de];rw[dm (fun i hi=>h i (by simp[ju,hi])),jJ (as:=r) (fun i hi=>h i (by simp[ju,hi]))]
theorem iX {e e2:Env}{i:Nat}(h:look e i=look e2 i):c8 e2 i=c8 e i:=by simp only[c8,h]
theorem jl {e e2:Env}:∀{as:List Arg},(∀i∈ju as,look e i=look e2 i)→aM e2 as=aM e as
 |[],_=>rfl
 |.t i::r,h=>by
  simp only[aM];rw[h i (by simp[ju,Arg.sl]),jl (as:=r) (fun i hi=>h i (by simp[ju,hi]))]
 |.c _::r,h=>by
  simp only[aM];exact jl (as:=r) (fun i hi=>h i (by simp[ju,hi]))
theorem mM.nil {k:IK}{t:cW}{s:Ab}:mM k t s {} where
 dst:=rfl
 dr i h:=by cases h
 kp i l h:=by cases h
 bs j o h:=by cases h
 m h:=absurd rfl h
 cd m' h:=by cases h
 Hx _ _ _ _ _ _ _ _ _:=rfl
theorem mc {call:bW}{k:IK}{t:cW}(h1:∀st v c st1,k.run call st=some (v,c,st1)→st1=st)
  (h2:∀st st2 v c,k.ok t st=true→gk k t st.ab st2.ab→k.run call st=some (v,c,st)→k.ok t st2=true∧k.run call st2=some (v,c,st2)):ug call k t:=by
 intro st v c st1 hu h hok;have:=h1 _ _ _ _ h;subst this;refine⟨{},.nil,(Diff.fQ _).symm,hu,fun st2 hu2 ha=>?_⟩;obtain⟨q1,q2⟩:=h2 _ _ _ _ hok ha h;exact⟨q1,st2,q2,(Diff.fQ _).symm,hu2⟩
end Go.Idl
namespace Go.Idl
variable {call:bW}
theorem ok_none {k:IK}{st:St}:k.ok .none st=true:=by simp[IK.ok]
def IK.Ds:IK→Bool
 |.load .. | .store .. | .ee _ | .append ..=>true
 |_=>false
theorem fp {k:IK}{t:cW}{st:St}(h:k.ok t st=true) (hn:k.Ds=false):t=.none:=by
 cases t with
 |none=>rfl
 |_=>simp only[IK.ok] at h;split at h<;>simp_all[IK.Ds]
theorem Uy (o:dW) (as:List Arg) (t:cW):ug call (.p o as) t:=by
 refine mc (fun st v c st1 h=>?_) (fun st st2 v c hok ha h=>?_)
 ·simp only[IK.run] at h;split at h
  ·split at h
   ·simp only[Option.some.injEq,Prod.mk.injEq] at h;exact h.2.2.symm
   ·cases h
  ·cases h
 ·have ht:=fp hok rfl;subst ht;refine⟨ok_none,?_⟩;have e1:de st2.env as=de st.env as:=jJ ha.e;simp only[IK.run,e1] at h ⊢;split at h
  ·split at h
   ·simp only[Option.some.injEq,Prod.mk.injEq] at h;obtain⟨rfl,rfl,_⟩:=h;simp[*]
   ·cases h
  ·cases h
theorem xg (sz len:Nat) (z:List IV) (ps:List (Nat×Nat)) (as:List Arg) (t:cW):ug call (.buildSlice sz len z ps as) t:=by
 refine mc (fun st v c st1 h=>?_) (fun st st2 v c hok ha h=>?_)
 ·simp only[IK.run] at h;split at h
  ·split at h
   ·split at h
    ·simp only[Option.some.injEq,Prod.mk.injEq] at h;exact h.2.2.symm
    ·cases h
   ·cases h
  ·cases h
 ·have ht:=fp hok rfl;subst ht;refine⟨ok_none,?_⟩;have e1:de st2.env as=de st.env as:=jJ ha.e;simp only[IK.run,e1] at h ⊢;split at h
  ·split at h
   ·split at h
    ·simp only[Option.some.injEq,Prod.mk.injEq] at h;obtain⟨rfl,rfl,_⟩:=h;simp[*]
    ·cases h
   ·cases h
  ·cases h
theorem AN (x:Arg) (t:cW):ug call (.fb x) t:=by
 refine mc (fun st v c st1 h=>?_) (fun st st2 v c hok ha h=>?_)
 ·simp only[IK.run] at h;split at h
  ·split at h
   ·simp only[Option.some.injEq,Prod.mk.injEq] at h;exact h.2.2.symm
   ·cases h
  ·cases h
 ·have ht:=fp hok rfl;subst ht;refine⟨ok_none,?_⟩;have e1:x.rd st2.env=x.rd st.env:=dm ha.e;simp only[IK.run,e1] at h ⊢;split at h
  ·split at h
   ·simp only[Option.some.injEq,Prod.mk.injEq] at h;obtain⟨rfl,rfl,_⟩:=h;simp[*]
   ·cases h
  ·cases h
theorem HH (sz bytes:Nat) (z:List IV) (l c:Arg) (t:cW):ug call (.me sz bytes z l c) t:=by
 refine mc (fun st v c' st1 h=>?_) (fun st st2 v c' hok ha h=>?_)
 ·simp only[IK.run] at h;split at h
  ·split at h
   ·simp only[Option.some.injEq,Prod.mk.injEq] at h;exact h.2.2.symm
   ·cases h
  ·cases h
 ·have ht:=fp hok rfl;subst ht;refine⟨ok_none,?_⟩;have e1:l.rd st2.env=l.rd st.env:=dm fun i hi=>ha.e i (List.mem_append_left _ hi);have e2:c.rd st2.env=c.rd st.env:=dm fun i hi=>ha.e i (List.mem_append_right _ hi);simp only[IK.run,e1,e2] at h ⊢;split at h
  ·split at h
   ·simp only[Option.some.injEq,Prod.mk.injEq] at h;obtain⟨rfl,rfl,_⟩:=h;simp[*]
   ·cases h
  ·cases h
theorem CC {lb lb2:List (Nat×aS)}{m m2:IM}{agg:Bool}{n:Nat}{p:IV}(hL:∀k off,p=.pL k off→aQ lb k=aQ lb2 k)
  (hB:∀id off,p=.pB id off→m.get id=m2.get id):dU lb2 m2 agg n p=dU lb m agg n p:=by
 have:∀n,bu lb2 m2 p n=bu lb m p n:=by
  intro n;unfold bu;split
  ·rfl
  ·rw[hL _ _ rfl]
  ·rw[hB _ _ rfl]
  ·rfl
 simp only[dU,this]
theorem nz {e e2:Env}{a:Arg}{t:cW}(h1:∀i∈a.sl,look e i=look e2 i) (h2:∀h,t=.cd h→look e h=look e2 h):bq e2 a t=bq e a t:=by
 cases t with
 |cd h=>simp only[bq,dm h1,h2 h rfl]
 |_=>simp only[bq,dm h1]
def ny (e:Env) (p:IV):cW→Prop
 |.none=>True
 |.dB=>∃row off,p=.pI row off
 |.own k=>∃off,p=.pL k off
 |.mem=>p.jO=false
 |.cd h=>∃id off o c,p=.pB id off∧look e h=some (.pB id o,c)
 |.slot _=>False
theorem kI {e:Env}{a:Arg}{t:cW}(h:bq e a t=true) {p:IV}(hp:a.rd e=some p):ny e p t:=by
 cases t with
 |none=>trivial
 |dB=>rw[bq,hp] at h;split at h<;>simp_all[ny]
 |own k =>
  rw[bq,hp] at h;split at h
  ·rename_i k' off e1
   cases e1
   have:=Nat.eq_of_beq_eq_true h;subst this;exact⟨off,rfl⟩
  ·cases h
 |mem =>
  rw[bq,hp] at h;simp only[ny]
  cases p<;>first | rfl | cases h
 |cd hs =>
  rw[bq,hp] at h;split at h
  ·rename_i id off id' o c e1 e2
   cases e1
   have:=Nat.eq_of_beq_eq_true h;subst this;exact⟨id,off,o,c,rfl,e2⟩
  ·cases h
 |slot j=>simp[bq] at h
theorem Lh (agg:Bool) (n:Nat) (a:Arg) (lk:Bool) (t:cW):ug call (.load agg n a lk) t:=by
 refine mc (fun st v c st1 h=>?_) (fun st st2 v c hok ha h=>?_)
 ·simp only[IK.run] at h;split at h
  ·split at h
   ·simp only[Option.some.injEq,Prod.mk.injEq] at h;exact h.2.2.symm
   ·cases h
  ·cases h
 ·have hok':bq st.env a t=true:=by
   cases t<;>first | exact hok | rfl
  have e0:bq st2.env a t=bq st.env a t:=nz ha.e fun h e=>(ha.h h e).1;have hok2:(IK.load agg n a lk).ok t st2=true:=by
   cases t<;>first | exact ok_none | (exact e0.trans hok')
  refine⟨hok2,?_⟩;have e1:a.rd st2.env=a.rd st.env:=dm ha.e;simp only[IK.run,e1] at h ⊢;split at h
  ·rename_i pa ep;have hs:=kI hok' ep;have e2:dU st2.lb st2.m agg n pa=dU st.lb st.m agg n pa:=by
    refine CC (fun k off q=>?_) (fun id off q=>?_)
    ·refine ha.b k fun l hl=>?_
     cases t with
     |none=>simp[IK.bx] at hl
     |dB=>obtain⟨_,_,q'⟩:=hs;rw[q] at q';cases q'
     |own k'=>obtain⟨_,q'⟩:=hs;rw[q] at q';cases q';simp only[IK.bx,Option.some.injEq] at hl;subst hl;exact List.mem_singleton.2 rfl
     |mem=>rw[q] at hs;exact absurd hs (by simp[ny,IV.jO])
     |cd h=>obtain⟨_,_,_,_,q',_⟩:=hs;rw[q] at q';cases q'
     |slot j=>exact False.elim hs
    ·cases t with
     |none=>have:=ha.m rfl;exact congrArg (fun m=>IM.get m id) this
     |dB=>obtain⟨_,_,q'⟩:=hs;rw[q] at q';cases q'
     |own k'=>obtain⟨_,q'⟩:=hs;rw[q] at q';cases q'
     |mem=>have:=ha.m rfl;exact congrArg (fun m=>IM.get m id) this
     |cd h =>obtain⟨id',off',o,c,q',q2⟩:=hs;rw[q] at q';cases q';exact (ha.h h rfl).2 _ _ _ q2
     |slot j=>exact False.elim hs
   rw[e2];split at h
   ·simp only[Option.some.injEq,Prod.mk.injEq] at h;obtain⟨rfl,rfl,_⟩:=h;simp[*]
   ·cases h
  ·cases h
theorem Ev (d:nW) (z:IV) (ok:Bool) (m k:Arg) (t:cW):ug call (.lookup d z ok m k) t:=by
 refine mc (fun st v c st1 h=>?_) (fun st st2 v c hok ha h=>?_)
 ·simp only[IK.run] at h;split at h
  ·simp only[Option.some.injEq,Prod.mk.injEq] at h;exact h.2.2.symm
  ·split at h
   ·split at h
    ·simp only[Option.some.injEq,Prod.mk.injEq] at h;exact h.2.2.symm
    ·simp only[Option.some.injEq,Prod.mk.injEq] at h;exact h.2.2.symm
    ·cases h
   ·cases h
  ·cases h
 ·have ht:=fp hok rfl;subst ht;refine⟨ok_none,?_⟩;have e1:m.rd st2.env=m.rd st.env:=dm fun i hi=>ha.e i (List.mem_append_left _ hi);have e2:k.rd st2.env=k.rd st.env:=dm fun i hi=>ha.e i (List.mem_append_right _ hi);have e3:st2.m=st.m:=(ha.m rfl).symm;simp only[IK.run,e1,e2,e3] at h ⊢;split at h
  ·simp only[Option.some.injEq,Prod.mk.injEq] at h;obtain⟨rfl,rfl,_⟩:=h;simp[*]
  ·split at h
   ·split at h
    ·simp only[Option.some.injEq,Prod.mk.injEq] at h;obtain⟨rfl,rfl,_⟩:=h;simp[*]
    ·simp only[Option.some.injEq,Prod.mk.injEq] at h;obtain⟨rfl,rfl,_⟩:=h;simp[*]
    ·cases h
   ·cases h
  ·cases h
theorem Ew (m:Arg) (t:cW):ug call (.kt m) t:=by
 refine mc (fun st v c st1 h=>?_) (fun st st2 v c hok ha h=>?_)
 ·simp only[IK.run] at h;split at h
  ·simp only[Option.some.injEq,Prod.mk.injEq] at h;exact h.2.2.symm
  ·split at h
   ·simp only[Option.some.injEq,Prod.mk.injEq] at h;exact h.2.2.symm
   ·cases h
  ·cases h
 ·have ht:=fp hok rfl;subst ht;refine⟨ok_none,?_⟩;have e1:m.rd st2.env=m.rd st.env:=dm ha.e;have e3:st2.m=st.m:=(ha.m rfl).symm;simp only[IK.run,e1,e3] at h ⊢;split at h
  ·simp only[Option.some.injEq,Prod.mk.injEq] at h;obtain⟨rfl,rfl,_⟩:=h;simp[*]
  ·split at h
   ·simp only[Option.some.injEq,Prod.mk.injEq] at h;obtain⟨rfl,rfl,_⟩:=h;simp[*]
   ·cases h
  ·cases h
theorem mM.mk' {k:IK}{t:cW}{s:Ab}{D:Diff}(dst:D.dst=none) (dr:∀i,D.dr i=true→i∈k.dr t∨k.nS t=true)
  (kp:∀i l,D.kp i l=false→i∈k.dr t∨(∃j∈k.dr t,l=.slot j)∨k.tQ t l=true∨k.nS t=true)
  (bs:∀j o,D.bs=some (j,o)→(∀l,k.bx t=some l→j∈l)∧∀a b c d,k ≠ .load a b c d)
  (m:D.m≠none→k.ly=false∧k.mem t=true) (hc:k.jx=false):mM k t s D :=
 ⟨dst,dr,kp,bs,m,fun _ _ h=>(by rw[hc] at h;cases h),fun h=>(by rw[hc] at h;cases h)⟩
def wE (i:Nat):Diff:={ dr:=fun j=>Nat.beq j i,kp:=iY i }
theorem beq_iff {i j:Nat}:Nat.beq i j=true↔i=j:=⟨Nat.eq_of_beq_eq_true,fun h=>by subst h;simp⟩
theorem pN {e:Env}{i sz:Nat}(h:c8 e i=.own sz):∃v,look e i=some (v,.own sz):=by
 unfold c8 at h;split at h
 ·rename_i v c e1;subst h;exact⟨v,e1⟩
 ·cases h
theorem tK {st:St}{i:Nat}{v:IV}{c:cV}(hu:Uq st.lk) (hl:look st.env i=some (v,c)):∃st',st.drop (.slot i)=some st'∧st'.ab=(wE i).app st.ab∧Uq st'.lk∧st'.lb=st.lb∧st'.m=st.m∧st'.env=(i,v,.any)::st.env:=by
 refine⟨{ st with env:=(i,v,.any)::st.env,lk:=aR i st.lk },by simp only[St.drop,hl,aK],?_,by rw[jH];exact hu.filter _,rfl,rfl,rfl⟩;simp only[St.ab,Diff.app,wE,Ab.mk.injEq];refine⟨?_,?_,trivial,rfl⟩
 ·funext j;rw[dZ];by_cases h:i=j
  ·subst h;simp[hl]
  ·have:Nat.beq j i=false:=by
    cases hb:Nat.beq j i with
    |false=>rfl
    |true=>exact absurd (beq_iff.1 hb).symm h
   simp[h,this]
 ·funext j;rw[jH,jn hu]
theorem jd {d i:Nat}{l:Loc}(h:iY d i l=false):i=d∨l=.slot d:=by
 unfold iY at h;simp only[Bool.and_eq_false_iff,Bool.not_eq_false'] at h;rcases h with h | h
 ·exact .inl (beq_iff.1 h)
 ·split at h
  ·rename_i j;exact .inr (by rw[beq_iff.1 h])
  ·cases h
theorem RB (x:Arg) (xf lk:Bool) (t:cW):ug call (.mv x xf lk) t:=by
 intro st v c st1 hu h hok;have ht:=fp hok rfl;subst ht
 cases x with
 |c v0 =>simp only[IK.run,Arg.rd,Option.some.injEq,Prod.mk.injEq] at h;obtain⟨rfl,rfl,rfl⟩:=h;exact⟨{},.nil,(Diff.fQ _).symm,hu,fun st2 hu2 ha=>⟨ok_none,st2,rfl,(Diff.fQ _).symm,hu2⟩⟩
 |t i =>
  have hi:∀{s2:Ab},gk (.mv (.t i) xf lk) .none st.ab s2→look st.env i=s2.e i:=fun ha=>ha.e i (by simp[IK.rd,Arg.sl]);simp only[IK.run,Arg.ET] at h
  cases xf with
  |false =>
   simp only[Option.some.injEq,Prod.mk.injEq] at h;obtain⟨rfl,rfl,rfl⟩:=h;refine⟨{},.nil,(Diff.fQ _).symm,hu,fun st2 hu2 ha=>⟨ok_none,st2,?_,(Diff.fQ _).symm,hu2⟩⟩;have:dy st2.env i=dy st.env i:=by unfold dy;rw[hi ha];rfl
   simp only[IK.run,Arg.ET,this]
  |true =>
   cases hc:c8 st.env i with
   |any =>
    rw[hc] at h;simp only[Option.some.injEq,Prod.mk.injEq] at h;obtain⟨rfl,rfl,rfl⟩:=h;refine⟨{},.nil,(Diff.fQ _).symm,hu,fun st2 hu2 ha=>⟨ok_none,st2,?_,(Diff.fQ _).symm,hu2⟩⟩;have:dy st2.env i=dy st.env i:=by unfold dy;rw[hi ha];rfl
    have e2:c8 st2.env i=.any:=by rw[iX (hi ha)];exact hc
    simp only[IK.run,Arg.ET,this,e2]
   |own sz =>
    rw[hc] at h;simp only at h;obtain⟨v0,hl⟩:=pN hc;obtain⟨s1,e1,a1,u1,-,-,-⟩:=tK hu hl;rw[e1] at h;simp only[Option.some.injEq,Prod.mk.injEq] at h;obtain⟨rfl,rfl,rfl⟩:=h;refine⟨wE i,.mk' rfl (fun j hj=>.inl (by rw[beq_iff.1 hj];exact List.mem_singleton.2 rfl)) (fun j l hj=>?_) (fun j o e=>by cases e) (fun e=>absurd rfl e) rfl,a1,u1,fun st2 hu2 ha=>⟨ok_none,?_⟩⟩
    ·rcases jd hj with q | q
     ·exact .inl (by rw[q];exact List.mem_singleton.2 rfl)
     ·exact .inr (.inl ⟨i,List.mem_singleton.2 rfl,q⟩)
    ·obtain⟨s2,e2,a2,u2,-,-,-⟩:=tK hu2 ((hi ha).symm.trans hl);refine⟨s2,?_,a2,u2⟩;have q1:dy st2.env i=dy st.env i:=by unfold dy;rw[hi ha];rfl
     have q2:c8 st2.env i=.own sz:=by rw[iX (hi ha)];exact hc
     simp only[IK.run,Arg.ET,q1,q2,e2]
theorem Li (x:Arg) (t:cW):ug call (.same x) t:=by
 intro st v c st1 hu h hok;have ht:=fp hok rfl;subst ht;simp only[IK.run] at h;split at h
 ·rename_i row len i e1;have hi:∀{s2:Ab},gk (.same (.t i)) .none st.ab s2→look st.env i=s2.e i:=fun ha=>ha.e i (by simp[IK.rd,Arg.sl]);split at h
  ·rename_i e2;have hm:∀{st2:St},gk (.same (.t i)) .none st.ab st2.ab→aU st2.lk i=some .marked:=fun {st2} ha=>by
    have:=ha.lk i rfl;have e2':st.ab.k i=some .marked:=e2;rw[e2'] at this;have q:(some Loc.marked).filter (IK.NV (.same (.t i)) .none)=some .marked:=rfl;rw[q] at this;change some Loc.marked=(aU st2.lk i).filter _ at this
    cases hq:aU st2.lk i with
    |none=>rw[hq] at this;cases this
    |some l =>
     rw[hq] at this
     cases l<;>simp[Option.filter,IK.NV] at this ⊢
   cases hc:c8 st.env i with
   |any =>
    rw[hc] at h;simp only[Option.some.injEq,Prod.mk.injEq] at h;obtain⟨rfl,rfl,rfl⟩:=h;refine⟨{},.nil,(Diff.fQ _).symm,hu,fun st2 hu2 ha=>⟨ok_none,st2,?_,(Diff.fQ _).symm,hu2⟩⟩;have q1:(Arg.t i).rd st2.env=some (.sl row len):=(dm (a:=.t i) ha.e).trans e1;have q2:c8 st2.env i=.any:=by rw[iX (hi ha)];exact hc
    simp only[IK.run,q1,q2,hm ha,if_true]
   |own sz =>
    rw[hc] at h;simp only at h;obtain⟨v0,hl⟩:=pN hc;obtain⟨s1,e3,a1,u1,-,-,-⟩:=tK hu hl;rw[e3] at h;simp only[Option.some.injEq,Prod.mk.injEq] at h;obtain⟨rfl,rfl,rfl⟩:=h;refine⟨wE i,.mk' rfl (fun j hj=>.inl (by rw[beq_iff.1 hj];exact List.mem_singleton.2 rfl)) (fun j l hj=>?_) (fun j o e=>by cases e) (fun e=>absurd rfl e) rfl,a1,u1,fun st2 hu2 ha=>⟨ok_none,?_⟩⟩
    ·rcases jd hj with q | q
     ·exact .inl (by rw[q];exact List.mem_singleton.2 rfl)
     ·exact .inr (.inl ⟨i,List.mem_singleton.2 rfl,q⟩)
    ·obtain⟨s2,e4,a2,u2,-,-,-⟩:=tK hu2 ((hi ha).symm.trans hl);refine⟨s2,?_,a2,u2⟩;have q1:(Arg.t i).rd st2.env=some (.sl row len):=(dm (a:=.t i) ha.e).trans e1;have q2:c8 st2.env i=.own sz:=by rw[iX (hi ha)];exact hc
     simp only[IK.run,q1,q2,hm ha,if_true,e4]
  ·cases h
 ·cases h
theorem jo (s:St) (k:Nat) (o:aS):({ s with lb:=(k,o)::s.lb }:St).ab=({ bs:=some (k,o)}:Diff).app s.ab:=by
 simp only[St.ab,Diff.app,Ab.mk.injEq];refine⟨by simp,?_,?_,rfl⟩
 ·funext i;cases aU s.lk i<;>rfl
 ·funext i;rw[cg]
theorem uv (s:St) (m:IM):({ s with m:=m }:St).ab=({ m:=some m }:Diff).app s.ab:=by simp only[St.ab,Diff.app,Ab.mk.injEq];refine⟨by simp,?_,trivial,rfl⟩;funext i;cases aU s.lk i<;>rfl
theorem AY {st st1:St}{k:Nat}{o:aS}{v:IV}{c:cV}(h:ga st k o=some (v,c,st1)):v=.pL k 0∧c=.any∧aQ st.lb k=.none∧st1={ st with lb:=(k,o)::st.lb }:=by
 unfold ga at h;split at h
 ·rename_i e;simp only[Option.some.injEq,Prod.mk.injEq] at h;exact⟨h.1.symm,h.2.1.symm,e,h.2.2.symm⟩
 ·cases h
theorem AX {st:St}{k:Nat}{o:aS}(h:aQ st.lb k=.none):ga st k o=some (.pL k 0,.any,{ st with lb:=(k,o)::st.lb }):=by unfold ga;rw[h]
theorem xW {k:IK}{s:Ab}{j:Nat}{o:aS}(hb:k.bx .none=some [j]) (hc:k.jx=false) (hl:∀a b c d,k ≠ .load a b c d):mM k .none s { bs:=some (j,o)} :=
 .mk' rfl (fun i h=>by cases h) (fun i l h=>by cases h) (fun j' o' e=>by
  cases e
  exact⟨fun l h=>by rw[hb] at h;cases h;exact List.mem_singleton.2 rfl,hl⟩) (fun h=>absurd rfl h) hc
theorem Et (k:Nat) (z:List IV) (cp:List cV) (t:cW):ug call (.bX k z cp) t:=by
 intro st v c st1 hu h hok;have ht:=fp hok rfl;subst ht;simp only[IK.run] at h;obtain⟨rfl,rfl,e0,rfl⟩:=AY h;refine⟨_,xW rfl rfl (by simp),jo _ _ _,hu,fun st2 hu2 ha=>⟨ok_none,_,?_,jo _ _ _,hu2⟩⟩;have hb:aQ st.lb k=aQ st2.lb k:=ha.b k fun l hl=>by simp only[IK.bx,Option.some.injEq] at hl;subst hl;exact List.mem_singleton.2 rfl
 simp only[IK.run];exact AX (hb▸e0)
theorem Lf (k n:Nat) (x:Arg) (t:cW):ug call (.f5 k n x) t:=by
 intro st v c st1 hu h hok;have ht:=fp hok rfl;subst ht;simp only[IK.run] at h;split at h
 ·rename_i v0 ev;split at h
  ·rename_i r er;split at h
   ·rename_i hn;obtain⟨rfl,rfl,e0,rfl⟩:=AY h;refine⟨_,xW rfl rfl (by simp),jo _ _ _,hu,fun st2 hu2 ha=>⟨ok_none,_,?_,jo _ _ _,hu2⟩⟩;have hb:aQ st.lb k=aQ st2.lb k:=ha.b k fun l hl=>by simp only[IK.bx,Option.some.injEq] at hl;subst hl;exact List.mem_singleton.2 rfl
    have e1:x.rd st2.env=x.rd st.env:=dm ha.e;simp only[IK.run,e1,ev,er,hn,if_true];exact AX (hb▸e0)
   ·cases h
  ·cases h
 ·cases h
theorem AM (k:Nat) (x:Arg) (t:cW):ug call (.fa k x) t:=by
 intro st v c st1 hu h hok;have ht:=fp hok rfl;subst ht;simp only[IK.run] at h;split at h
 ·rename_i s ev;obtain⟨rfl,rfl,e0,rfl⟩:=AY h;refine⟨_,xW rfl rfl (by simp),jo _ _ _,hu,fun st2 hu2 ha=>⟨ok_none,_,?_,jo _ _ _,hu2⟩⟩;have hb:aQ st.lb k=aQ st2.lb k:=ha.b k fun l hl=>by simp only[IK.bx,Option.some.injEq] at hl;subst hl;exact List.mem_singleton.2 rfl
  have e1:x.rd st2.env=x.rd st.env:=dm ha.e;simp only[IK.run,e1,ev];exact AX (hb▸e0)
 ·cases h
theorem u4 {st st1:St}{o:aS}{v0 v:IV}{c:cV}(h:fK st o v0=some (v,c,st1)):∃m,st.m.push o=some m∧v=v0∧c=.any∧st1={ st with m }:=by
 unfold fK at h;split at h
 ·rename_i m e;simp only[Option.some.injEq,Prod.mk.injEq] at h;exact⟨m,e,h.1.symm,h.2.1.symm,h.2.2.symm⟩
 ·cases h
theorem oU {k:IK}{t:cW}{s:Ab}{m:IM}(hc:k.jx=false) (hl:k.ly=false) (hm:k.mem t=true):mM k t s { m:=some m } :=
 .mk' rfl (fun i h=>by cases h) (fun i l h=>by cases h) (fun j' o' e=>by cases e) (fun _=>⟨hl,hm⟩) hc
theorem uZ {st st2:St}{o:aS}{v0:IV}{m:IM}(h:st.m.push o=some m) (e:st2.m=st.m):fK st2 o v0=some (v0,.any,{ st2 with m }):=by unfold fK;rw[e,h]
theorem Es (z:List IV) (cp:List cV) (t:cW):ug call (.iv z cp) t:=by intro st v c st1 hu h hok;have ht:=fp hok rfl;subst ht;simp only[IK.run] at h;obtain⟨m,e0,rfl,rfl,rfl⟩:=u4 h;refine⟨_,oU rfl rfl rfl,uv _ _,hu,fun st2 hu2 ha=>⟨ok_none,_,?_,uv _ m,hu2⟩⟩;have e3:st2.m=st.m:=(ha.m rfl).symm;simp only[IK.run];rw[uZ e0 e3,e3]
theorem HJ (t:cW):ug call .mkMap t:=by intro st v c st1 hu h hok;have ht:=fp hok rfl;subst ht;simp only[IK.run] at h;obtain⟨m,e0,rfl,rfl,rfl⟩:=u4 h;refine⟨_,oU rfl rfl rfl,uv _ _,hu,fun st2 hu2 ha=>⟨ok_none,_,?_,uv _ m,hu2⟩⟩;have e3:st2.m=st.m:=(ha.m rfl).symm;simp only[IK.run];rw[uZ e0 e3,e3]
theorem Le (n:Nat) (x:Arg) (t:cW):ug call (.nZ n x) t:=by
 intro st v c st1 hu h hok;have ht:=fp hok rfl;subst ht;simp only[IK.run] at h;split at h
 ·rename_i v0 ev;split at h
  ·rename_i r er;split at h
   ·rename_i hn;obtain⟨m,e0,rfl,rfl,rfl⟩:=u4 h;refine⟨_,oU rfl rfl rfl,uv _ _,hu,fun st2 hu2 ha=>⟨ok_none,_,?_,uv _ m,hu2⟩⟩;have e3:st2.m=st.m:=(ha.m rfl).symm;have e1:x.rd st2.env=x.rd st.env:=dm ha.e;simp only[IK.run,e1,ev,er,hn,if_true];rw[uZ e0 e3,e3]
   ·cases h
  ·cases h
 ·cases h
theorem HG (sz bytes:Nat) (z:List IV) (l c:Arg) (t:cW):ug call (.kO sz bytes z l c) t:=by
 intro st v c' st1 hu h hok;have ht:=fp hok rfl;subst ht;simp only[IK.run] at h;split at h
 ·rename_i l0 c0 el ec;split at h
  ·rename_i hn;obtain⟨m,e0,rfl,rfl,rfl⟩:=u4 h;refine⟨_,oU rfl rfl rfl,uv _ _,hu,fun st2 hu2 ha=>⟨ok_none,_,?_,uv _ m,hu2⟩⟩;have e3:st2.m=st.m:=(ha.m rfl).symm;have e1:l.rd st2.env=l.rd st.env:=dm fun i hi=>ha.e i (List.mem_append_left _ hi);have e2:c.rd st2.env=c.rd st.env:=dm fun i hi=>ha.e i (List.mem_append_right _ hi);simp only[IK.run,e1,e2,el,ec,if_pos hn];rw[uZ e0 e3,e3]
  ·cases h
 ·cases h
theorem Ey (d:nW) (m k v:Arg) (t:cW):ug call (.jy d m k v) t:=by
 intro st v' c' st1 hu h hok;have ht:=fp hok rfl;subst ht;have rds:∀{st2:St},gk (.jy d m k v) .none st.ab st2.ab→m.rd st2.env=m.rd st.env∧k.rd st2.env=k.rd st.env∧v.rd st2.env=v.rd st.env∧st2.m=st.m:=fun ha =>
  ⟨dm fun i hi=>ha.e i (List.mem_append_left _ hi),dm fun i hi=>ha.e i (List.mem_append_right _ (List.mem_append_left _ hi)),
   dm fun i hi=>ha.e i (List.mem_append_right _ (List.mem_append_right _ hi)),(ha.m rfl).symm⟩
 simp only[IK.run] at h;split at h
 ·rename_i id k0 v0 e1 e2 e3;split at h
  ·rename_i es eg;split at h
   ·rename_i es' eu ep;split at h
    ·rename_i m' em;simp only[Option.some.injEq,Prod.mk.injEq] at h;obtain⟨rfl,rfl,rfl⟩:=h;refine⟨_,oU rfl rfl rfl,uv _ _,hu,fun st2 hu2 ha=>⟨ok_none,_,?_,uv st2 m',hu2⟩⟩;obtain⟨r1,r2,r3,r4⟩:=rds ha;simp only[IK.run,r1,r2,r3,r4,e1,e2,e3,eg,eu,ep,em]
    ·cases h
   ·cases h
  ·cases h
 ·cases h
end Go.Idl
namespace Go.Idl
variable {call:bW}
theorem zx {st st':St}{n:Nat}{p:IV}{vs:List IV}{c:cV}(hu:Uq st.lk) (h:bK st n p vs c=some st') :
  ∃D:Diff,D.dst=none∧(∀i,D.dr i=false)∧st'.ab=D.app st.ab∧Uq st'.lk ∧
   ((∃k off o,p=.pL k off∧D.bs=some (k,o)∧D.m=none∧(∀i l,D.kp i l=NN k l))∨(∃id off m',p=.pB id off∧D.bs=none∧D.m=some m'∧(∀i l,D.kp i l=M7 (· == id) l))) ∧
   ∀st2:St,Uq st2.lk→(∀k off,p=.pL k off→aQ st.lb k=aQ st2.lb k)→(∀id off,p=.pB id off→st2.m=st.m)→∃st3,bK st2 n p vs c=some st3∧st3.ab=D.app st2.ab∧Uq st3.lk:=by
 unfold bK at h;split at h
 ·cases h
 ·rename_i hn;split at h
  ·rename_i k off;split at h
   ·rename_i cs cp r eb er;split at h
    ·rename_i hle;simp only[aK,Option.some.injEq] at h;subst h
     have key:∀s:St,Uq s.lk→({ s with lb:=(k,.cells (over cs off vs) (bh cp off n c))::s.lb,lk:=kU k s.lk }:St).ab
       = ({ bs:=some (k,.cells (over cs off vs) (bh cp off n c)),kp:=fun _ l=>NN k l }:Diff).app s.ab:=by
      intro s hs;simp only[St.ab,Diff.app,Ab.mk.injEq];refine⟨by simp,?_,?_,rfl⟩
      ·funext i;rw[ta,jn hs (fun _ l=>NN k l)]
      ·funext i;rw[cg]
     refine⟨_,rfl,fun _=>rfl,key st hu,by rw[ta];exact hu.filter _,.inl ⟨k,off,_,rfl,rfl,rfl,fun _ _=>rfl⟩,fun st2 hu2 hb hm=>?_⟩;refine⟨_,?_,key st2 hu2,by rw[ta];exact hu2.filter _⟩;have e1:aQ st2.lb k=.cells cs cp:=(hb k off rfl).symm.trans eb;simp only[bK,hn,if_false,e1,er,hle,if_true,aK]
    ·cases h
   ·cases h
  ·rename_i id off;split at h
   ·rename_i cs cp r eb er;split at h
    ·rename_i hle;simp only[aK] at h;split at h
     ·rename_i m1 em;simp only[Option.some.injEq] at h;subst h
      have key:∀s:St,Uq s.lk→({ s with m:={ m1 with kS:=if r≤id then m1.kS else m1.kS+1 },lk:=kT (· == id) s.lk }:St).ab
        = ({ m:=some { m1 with kS:=if r≤id then m1.kS else m1.kS+1 },kp:=fun _ l=>M7 (· == id) l }:Diff).app s.ab:=by
       intro s hs;simp only[St.ab,Diff.app,Ab.mk.injEq];refine⟨by simp,?_,trivial,rfl⟩;funext i;rw[sZ,jn hs (fun _ l=>M7 (· == id) l)]
      refine⟨_,rfl,fun _=>rfl,key st hu,by rw[sZ];exact hu.filter _,.inr ⟨id,off,_,rfl,rfl,rfl,fun _ _=>rfl⟩,fun st2 hu2 hb hm=>?_⟩;refine⟨_,?_,key st2 hu2,by rw[sZ];exact hu2.filter _⟩;have e1:st2.m=st.m:=hm id off rfl;simp only[bK,hn,if_false,e1,eb,er,hle,if_true,aK,em]
     ·cases h
    ·cases h
   ·cases h
  ·cases h
theorem B4 {D:Diff}(h1:D.dst=none) (h2:∀i,D.dr i=false) (i:Nat) (s:Ab) :
  D.app ((wE i).app s)=({ D with dr:=fun j=>Nat.beq j i,kp:=fun i' l=>D.kp i' l&&iY i i' l }:Diff).app s:=by
 simp only[Diff.app,wE,h1,h2,Ab.mk.injEq];refine⟨by simp,?_,trivial,rfl⟩;funext j;rw[filter_filter]
theorem HC {k:Nat}{l:Loc}(h:NN k l=false):∃o,l=.L k o:=by
 unfold NN at h;split at h
 ·rename_i j o;simp only[Bool.not_eq_false'] at h;exact⟨o,by rw[beq_iff.1 h]⟩
 ·cases h
theorem yR {f:Nat→Bool}{l:Loc}(h:M7 f l=false):∃id o,l=.B id o∧f id=true:=by
 unfold M7 at h;split at h
 ·rename_i id o;exact⟨id,o,rfl,by simpa using h⟩
 ·cases h
theorem HK (n:Nat) (a x:Arg) (xf:Bool) (t:cW):ug call (.store n a x xf) t:=by
 intro st v c st1 hu h hok;have hok':bq st.env a t=true:=by
  cases t<;>first | exact hok | rfl
 have rds:∀{st2:St},gk (.store n a x xf) t st.ab st2.ab→a.rd st2.env=a.rd st.env∧x.rd st2.env=x.rd st.env∧(IK.store n a x xf).ok t st2=true:=fun {st2} ha=>by
  have e1:a.rd st2.env=a.rd st.env:=dm fun i hi=>ha.e i (List.mem_append_left _ hi);refine⟨e1,dm fun i hi=>ha.e i (List.mem_append_right _ hi),?_⟩;have e0:bq st2.env a t=bq st.env a t:=nz (fun i hi=>ha.e i (List.mem_append_left _ hi)) fun h e=>(ha.h h e).1
  cases t<;>first | exact ok_none | (exact e0.trans hok')
 have hsl:∀{i:Nat},x=.t i→∀{s2:Ab},gk (.store n a x xf) t st.ab s2→look st.env i=s2.e i:=by intro i hx s2 ha;exact ha.e _ (by subst hx;exact List.mem_append_right _ (List.mem_singleton.2 rfl))
 have stp:∀{pa:IV},a.rd st.env=some pa→∀{s:St}{vs:List IV}{cc:cV}{s':St},bK s n pa vs cc=some s'→Uq s.lk→s.lb=st.lb→s.m=st.m→∃D:Diff,D.dst=none∧(∀i,D.dr i=false)∧s'.ab=D.app s.ab∧Uq s'.lk ∧
   (∀i l,D.kp i l=false→(IK.store n a x xf).tQ t l=true)∧(∀j o,D.bs=some (j,o)→∀l,(IK.store n a x xf).bx t=some l→j∈l)∧(D.m≠none→(IK.store n a x xf).mem t=true) ∧
   ∀st2:St,gk (.store n a x xf) t st.ab st2.ab→∀s2:St,Uq s2.lk→s2.lb=st2.lb→s2.m=st2.m→∃s3,bK s2 n pa vs cc=some s3∧s3.ab=D.app s2.ab∧Uq s3.lk:=by
  intro pa epa s vs cc s' hs hus hlb hm;have hspec:=kI hok' epa;obtain⟨D,d1,d2,d3,d4,d5,d6⟩:=zx hus hs;refine⟨D,d1,d2,d3,d4,fun i l hl=>?_,fun j o hj l hl=>?_,fun hmn=>?_,fun st2 ha s2 hu2 hlb2 hm2=>d6 s2 hu2 (fun k off q=>?_) (fun id off q=>?_)⟩
  ·rcases d5 with ⟨k,off,o,rfl,-,-,hk⟩ | ⟨id,off,m',rfl,-,-,hk⟩
   ·rw[hk] at hl;obtain⟨o',rfl⟩:=HC hl
    cases t with
    |none=>rfl
    |dB=>obtain⟨_,_,q⟩:=hspec;cases q
    |own k'=>obtain⟨_,q⟩:=hspec;cases q;simp[IK.tQ]
    |mem=>exact absurd hspec (by simp[ny,IV.jO])
    |cd h'=>obtain⟨_,_,_,_,q,_⟩:=hspec;cases q
    |slot j=>exact False.elim hspec
   ·rw[hk] at hl;obtain⟨id',o',rfl,-⟩:=yR hl
    cases t with
    |none=>rfl
    |dB=>obtain⟨_,_,q⟩:=hspec;cases q
    |own k'=>obtain⟨_,q⟩:=hspec;cases q
    |mem=>rfl
    |cd h'=>rfl
    |slot j=>exact False.elim hspec
  ·rcases d5 with ⟨k,off,o',rfl,hb,-,-⟩ | ⟨id,off,m',rfl,hb,-,-⟩
   ·rw[hb] at hj;cases hj
    cases t with
    |none=>simp[IK.bx] at hl
    |dB=>obtain⟨_,_,q⟩:=hspec;cases q
    |own k'=>obtain⟨_,q⟩:=hspec;cases q;simp only[IK.bx,Option.some.injEq] at hl;subst hl;exact List.mem_singleton.2 rfl
    |mem=>exact absurd hspec (by simp[ny,IV.jO])
    |cd h'=>obtain⟨_,_,_,_,q,_⟩:=hspec;cases q
    |slot j=>exact False.elim hspec
   ·rw[hb] at hj;cases hj
  ·rcases d5 with ⟨k,off,o',rfl,-,hm',-⟩ | ⟨id,off,m',rfl,-,hm',-⟩
   ·exact absurd hm' hmn
   ·cases t with
    |own k'=>obtain⟨_,q⟩:=hspec;cases q
    |_=>rfl
  ·subst q;rw[hlb,hlb2];refine ha.b k fun l hl=>?_
   cases t with
   |none=>simp[IK.bx] at hl
   |dB=>obtain⟨_,_,q⟩:=hspec;cases q
   |own k'=>obtain⟨_,q⟩:=hspec;cases q;simp only[IK.bx,Option.some.injEq] at hl;subst hl;exact List.mem_singleton.2 rfl
   |mem=>exact absurd hspec (by simp[ny,IV.jO])
   |cd h'=>obtain⟨_,_,_,_,q,_⟩:=hspec;cases q
   |slot j=>exact False.elim hspec
  ·subst q;rw[hm,hm2];refine (ha.m ?_).symm
   cases t with
   |own k'=>obtain⟨_,q⟩:=hspec;cases q
   |_=>rfl
 simp only[IK.run] at h;split at h
 ·rename_i pa v0 epa ev
  have plain:∀{cc:cV},(match bK st n pa v0.cells .any with | some st=>some (IV.undef,cV.any,st) | none=>none)=some (v,c,st1) →
    (∀{st2:St},gk (.store n a x xf) t st.ab st2.ab→∀s3,bK st2 n pa v0.cells .any=some s3→(IK.store n a x xf).run call st2=some (.undef,.any,s3)) →
    ∃D:Diff,mM (.store n a x xf) t st.ab D∧st1.ab=D.app st.ab∧Uq st1.lk∧∀st2:St,Uq st2.lk→gk (.store n a x xf) t st.ab st2.ab →
     (IK.store n a x xf).ok t st2=true∧∃st3,(IK.store n a x xf).run call st2=some (v,c,st3)∧st3.ab=D.app st2.ab∧Uq st3.lk:=by
   intro cc h hrun;split at h
   ·rename_i s1 es;simp only[Option.some.injEq,Prod.mk.injEq] at h;obtain⟨rfl,rfl,rfl⟩:=h;obtain⟨D,d1,d2,d3,d4,d5,d6,d7,d8⟩:=stp epa es hu rfl rfl;refine⟨D,.mk' d1 (fun i hi=>by rw[d2] at hi;cases hi) (fun i l hl=>.inr (.inr (.inl (d5 i l hl)))) (fun j o hj=>⟨d6 j o hj,by simp⟩) (fun hm=>⟨rfl,d7 hm⟩) rfl,d3,d4,fun st2 hu2 ha=>⟨(rds ha).2.2,?_⟩⟩;obtain⟨s3,e3,a3,u3⟩:=d8 st2 ha st2 hu2 rfl rfl;exact⟨s3,hrun ha s3 e3,a3,u3⟩
   ·cases h
  split at h
  ·rename_i i;have hi:∀{st2:St},gk (.store n a (.t i) true) t st.ab st2.ab→look st.env i=look st2.env i:=fun ha=>hsl rfl ha;split at h
   ·rename_i sz hc;obtain⟨vi,hl⟩:=pN hc;obtain⟨s1,e1,a1,u1,b1,m1,-⟩:=tK hu hl;rw[e1] at h;simp only at h;split at h
    ·rename_i s2 es;simp only[Option.some.injEq,Prod.mk.injEq] at h;obtain⟨rfl,rfl,rfl⟩:=h;obtain⟨D,d1,d2,d3,d4,d5,d6,d7,d8⟩:=stp epa es u1 b1 m1;refine⟨{ D with dr:=fun j=>Nat.beq j i,kp:=fun i' l=>D.kp i' l&&iY i i' l },.mk' d1 (fun j hj=>.inl ?_) (fun j l hl=>?_) (fun j o hj=>⟨d6 j o hj,by simp⟩) (fun hm=>⟨rfl,d7 hm⟩) rfl,?_,d4,fun st2 hu2 ha=>⟨(rds ha).2.2,?_⟩⟩
     ·rw[beq_iff.1 hj];exact List.mem_singleton.2 rfl
     ·simp only[Bool.and_eq_false_iff] at hl;rcases hl with hl | hl
      ·exact .inr (.inr (.inl (d5 j l hl)))
      ·rcases jd hl with q | q
       ·exact .inl (by rw[q];exact List.mem_singleton.2 rfl)
       ·exact .inr (.inl ⟨i,List.mem_singleton.2 rfl,q⟩)
     ·rw[d3,a1,B4 d1 d2]
     ·obtain⟨t1,f1,g1,u2,b2,m2,-⟩:=tK hu2 ((hi ha).symm.trans hl);obtain⟨s3,e3,a3,u3⟩:=d8 st2 ha t1 u2 b2 m2;refine⟨s3,?_,by rw[a3,g1,B4 d1 d2],u3⟩;have q2:c8 st2.env i=.own sz:=by rw[iX (hi ha)];exact hc
      simp only[IK.run,(rds ha).1,(rds ha).2.1,epa,ev,q2,f1,e3]
    ·cases h
   ·rename_i hc;refine plain (cc:=.any) h fun {st2} ha s3 e3=>?_;have q2:c8 st2.env i=.any:=by rw[iX (hi ha)];exact hc
    simp only[IK.run,(rds ha).1,(rds ha).2.1,epa,ev,q2,e3]
  ·rename_i hx;refine plain (cc:=.any) h fun {st2} ha s3 e3=>?_
   cases xf with
   |false=>simp only[IK.run,(rds ha).1,(rds ha).2.1,epa,ev,e3]
   |true=>cases x with
    |c v'=>simp only[IK.run,(rds ha).1,(rds ha).2.1,epa,ev,e3]
    |t i=>exact (hx i rfl rfl).elim
 ·cases h
theorem oS {lb lb2:List (Nat×aS)}{m:IM}{sz:Nat}{x:IV}:dG lb2 m sz x=dG lb m sz x:=by unfold dG;split<;>rfl
theorem Lg (sz:Nat) (d s:Arg) (t:cW):ug call (.copy sz d s) t:=by
 intro st v c st1 hu h hok;have ht:=fp hok rfl;subst ht;have rds:∀{st2:St},gk (.copy sz d s) .none st.ab st2.ab→d.rd st2.env=d.rd st.env∧s.rd st2.env=s.rd st.env∧st2.m=st.m:=fun ha =>
  ⟨dm fun i hi=>ha.e i (List.mem_append_left _ hi),dm fun i hi=>ha.e i (List.mem_append_right _ hi),(ha.m rfl).symm⟩
 simp only[IK.run] at h;split at h
 ·rename_i dv sv ed es;split at h
  ·rename_i id off n _ xs k esrc;split at h
   ·cases h
   ·rename_i hn;split at h
    ·rename_i s1 est;simp only[Option.some.injEq,Prod.mk.injEq] at h;obtain⟨rfl,rfl,rfl⟩:=h;obtain⟨D,d1,d2,d3,d4,d5,d6⟩:=zx hu est;rcases d5 with ⟨_,_,_,q,_⟩ | ⟨id',off',m',q,hb,hm,hk⟩
     ·cases q
     ·cases q
      refine⟨D,.mk' d1 (fun i hi=>by rw[d2] at hi;cases hi) (fun i l hl=>?_) (fun j o hj=>by rw[hb] at hj;cases hj) (fun _=>⟨rfl,rfl⟩) rfl,d3,d4,fun st2 hu2 ha=>⟨ok_none,?_⟩⟩
      ·rw[hk] at hl;obtain⟨_,_,rfl,_⟩:=yR hl;exact .inr (.inr (.inl rfl))
      ·obtain⟨r1,r2,r3⟩:=rds ha;obtain⟨s3,e3,a3,u3⟩:=d6 st2 hu2 (fun _ _ q=>by cases q) (fun _ _ _=>r3);refine⟨s3,?_,a3,u3⟩;rw[r3.symm] at esrc;rw[oS (lb2:=st.lb) (lb:=st2.lb)] at esrc;simp only[IK.run,r1,r2,ed,es,esrc,if_neg hn,e3]
    ·cases h
  ·rename_i xs k esrc;split at h
   ·cases h
   ·rename_i hn;simp only[Option.some.injEq,Prod.mk.injEq] at h;obtain⟨rfl,rfl,rfl⟩:=h;refine⟨{},.nil,(Diff.fQ _).symm,hu,fun st2 hu2 ha=>⟨ok_none,st2,?_,(Diff.fQ _).symm,hu2⟩⟩;obtain⟨r1,r2,r3⟩:=rds ha;rw[r3.symm] at esrc;rw[oS (lb2:=st.lb) (lb:=st2.lb)] at esrc;simp only[IK.run,r1,r2,ed,es,esrc,if_neg hn]
  ·cases h
 ·cases h
theorem Cw (a:Arg) (t:cW):ug call (.ee a) t:=by
 intro st v c st1 hu h hok;have hok':bq st.env a t=true:=by
  cases t<;>first | exact hok | rfl
 have rds:∀{st2:St},gk (.ee a) t st.ab st2.ab→a.rd st2.env=a.rd st.env∧(IK.ee a).ok t st2=true:=fun {st2} ha=>by
  refine⟨dm ha.e,?_⟩;have e0:bq st2.env a t=bq st.env a t:=nz ha.e fun h e=>(ha.h h e).1
  cases t<;>first | exact ok_none | (exact e0.trans hok')
 simp only[IK.run] at h;split at h
 ·rename_i k ea;have hspec:=kI hok' ea;have hbx:∀l,(IK.ee a).bx t=some l→k∈l:=fun l hl=>by
   cases t with
   |none=>simp[IK.bx] at hl
   |dB=>obtain⟨_,_,q⟩:=hspec;cases q
   |own k'=>obtain⟨_,q⟩:=hspec;cases q;simp only[IK.bx,Option.some.injEq] at hl;subst hl;exact List.mem_singleton.2 rfl
   |mem=>exact absurd hspec (by simp[ny,IV.jO])
   |cd h'=>obtain⟨_,_,_,_,q,_⟩:=hspec;cases q
   |slot j=>exact False.elim hspec
  split at h
  ·rename_i s pos el;have hel:∀{st2:St},gk (.ee a) t st.ab st2.ab→aQ st2.lb k=.iter s pos:=fun ha=>(ha.b k hbx).symm.trans el;split at h
   ·rename_i hlt;simp only[Option.some.injEq,Prod.mk.injEq] at h;obtain⟨rfl,rfl,rfl⟩:=h;refine⟨_,.mk' rfl (fun i h=>by cases h) (fun i l h=>by cases h) (fun j o e=>by cases e;exact⟨hbx,by simp⟩) (fun e=>absurd rfl e) rfl,jo _ _ _,hu,fun st2 hu2 ha=>⟨(rds ha).2,_,?_,jo _ _ _,hu2⟩⟩;simp only[IK.run,(rds ha).1,ea,hel ha,if_pos hlt]
   ·rename_i hlt;simp only[Option.some.injEq,Prod.mk.injEq] at h;obtain⟨rfl,rfl,rfl⟩:=h;refine⟨{},.nil,(Diff.fQ _).symm,hu,fun st2 hu2 ha=>⟨(rds ha).2,st2,?_,(Diff.fQ _).symm,hu2⟩⟩;simp only[IK.run,(rds ha).1,ea,hel ha,if_neg hlt]
  ·cases h
 ·cases h
end Go.Idl
namespace Go.Idl
variable {call:bW}
theorem Nv {st st':St}{l:Loc}{sz:Nat}(hu:Uq st.lk) (hc:st.dn l=.own sz) (h:st.drop l=some st') :
  ∃D:Diff,D.dst=none∧st'.ab=D.app st.ab∧Uq st'.lk∧(∀i,D.dr i=true→l=.slot i)∧(∀i l',D.kp i l'=false→l=.slot i∨(l'=l∧∃j,l=.slot j)) ∧
   (∀j o,D.bs=some (j,o)→∃off,l=.L j off)∧(D.m≠none→∃id off,l=.B id off) ∧
   ∀st2:St,Uq st2.lk→(∀j,l=.slot j→look st.env j=look st2.env j)→(∀k off,l=.L k off→aQ st.lb k=aQ st2.lb k)→(∀id off,l=.B id off→st2.m=st.m) →
    ∃st3,st2.drop l=some st3∧st3.ab=D.app st2.ab∧Uq st3.lk:=by
 cases l with
 |slot j =>
  obtain⟨v,hl⟩:=pN (i:=j) hc;obtain⟨s1,e1,a1,u1,-,-,-⟩:=tK hu hl;rw[e1] at h;simp only[Option.some.injEq] at h;subst h;refine⟨wE j,rfl,a1,u1,fun i hi=>by rw[beq_iff.1 hi],fun i l' hi=>?_,fun _ _ e=>(by cases e),fun e=>absurd rfl e,fun st2 hu2 h1 _ _=>?_⟩
  ·rcases jd hi with q | q
   ·exact .inl (by rw[q])
   ·exact .inr ⟨q,j,rfl⟩
  ·obtain⟨s2,e2,a2,u2,-,-,-⟩:=tK hu2 ((h1 j rfl).symm.trans hl);exact⟨s2,e2,a2,u2⟩
 |L k off =>
  simp only[St.dn] at hc;split at hc
  ·rename_i cs cp el;simp only[St.drop,el,aK,Option.some.injEq] at h;subst h;refine⟨_,rfl,jo _ _ _,hu,fun _ e=>(by cases e),fun _ _ e=>(by cases e),fun j o e=>(by cases e;exact⟨off,rfl⟩),fun e=>absurd rfl e,fun st2 hu2 _ h2 _=>⟨_,?_,jo _ _ _,hu2⟩⟩;simp only[St.drop,(h2 k off rfl).symm.trans el,aK]
  ·cases hc
 |B id off =>
  simp only[St.dn] at hc;split at hc
  ·rename_i cs cp el;simp only[St.drop,el,aK] at h;split at h
   ·rename_i m1 em;simp only[Option.some.injEq] at h;subst h;refine⟨_,rfl,uv _ _,hu,fun _ e=>(by cases e),fun _ _ e=>(by cases e),fun j o e=>(by cases e),fun _=>⟨id,off,rfl⟩,fun st2 hu2 _ _ h3=>⟨_,?_,uv st2 m1,hu2⟩⟩;simp only[St.drop,h3 id off rfl,el,aK,em]
   ·cases h
  ·cases hc
 |marked=>simp[St.dn] at hc
theorem EL {st:St}{s:Arg}{sz:Nat}{l:Loc}(h:st.owner s sz=some l):∃i,s=.t i∧st.dn l=.own sz∧(l=.slot i∨(c8 st.env i=.any∧aU st.lk i=some l)):=by
 cases s with
 |c v=>simp[St.owner] at h
 |t i =>
  refine⟨i,rfl,?_⟩;simp only[St.owner] at h;split at h
  ·rename_i sz' e;split at h
   ·rename_i q;cases h;subst q;exact⟨e,.inl rfl⟩
   ·cases h
  ·rename_i e;split at h
   ·rename_i l' el;split at h
    ·rename_i q;cases h;exact⟨q,.inr ⟨e,el⟩⟩
    ·cases h
   ·cases h
theorem sA {sz bytes:Nat}{i:Nat}{x:Arg}{t:cW}{st:St}(h:(IK.append sz bytes (.t i) x).ok t st=true):t=.none∨(t ≠ .none∧eE st.env st.lk i t=true):=by
 cases t with
 |none=>exact .inl rfl
 |_=>exact .inr ⟨by simp,h⟩
theorem vU {e:Env}{lk:List (Nat×Loc)}{i:Nat}{t:cW}{row:List IV}{len:Nat}(h:eE e lk i t=true) (hv:dy e i=.sl row len) (hc:c8 e i=.any):∃l,aU lk i=some l∧t.gC l=true:=by
 unfold eE at h;unfold dy at hv;unfold c8 at hc;split at h
 ·rename_i e1;rw[e1] at hv;cases hv
 ·rename_i e1;rw[e1] at hc;cases hc
 ·split at h
  ·rename_i l el;exact⟨l,el,h⟩
  ·cases h
theorem lK {t:cW}{l:Loc}(h:t.gC l=true):(∃j,t=.slot j∧l=.slot j)∨(∃k off,t=.own k∧l=.L k off)∨(∃id off,t=.mem∧l=.B id off):=by
 unfold cW.gC at h;split at h
 ·exact .inl ⟨_,rfl,by rw[beq_iff.1 h]⟩
 ·exact .inr (.inl ⟨_,_,rfl,by rw[beq_iff.1 h]⟩)
 ·exact .inr (.inr ⟨_,_,rfl,rfl⟩)
 ·cases h
theorem wL {p:Loc→Bool}{o:Option Loc}{l:Loc}(h:(some l).filter p=o.filter p) (hp:p l=true):o=some l:=by
 cases o with
 |none=>simp[Option.filter,hp] at h
 |some l' =>
  simp only[Option.filter,hp,if_true] at h;split at h
  ·exact h.symm
  ·cases h
theorem EC {sz bytes:Nat}{s x:Arg}{t:cW}(h:t ≠ .none) (l:Loc):(IK.append sz bytes s x).NV t l=t.gC l:=by
 cases t<;>first | exact absurd rfl h | rfl
theorem St.Ce {st st2:St}{l:Loc}(h1:∀j,l=.slot j→look st.env j=look st2.env j) (h2:∀k off,l=.L k off→aQ st.lb k=aQ st2.lb k) (h3:∀id off,l=.B id off→st2.m=st.m):st2.dn l=st.dn l:=by
 cases l with
 |slot j=>simp only[St.dn,c8,h1 j rfl]
 |marked=>rfl
 |L k off=>simp only[St.dn,h2 k off rfl]
 |B id off=>simp only[St.dn,h3 id off rfl]
theorem Eu (sz bytes:Nat) (s x:Arg) (t:cW):ug call (.append sz bytes s x) t:=by
 intro st v c st1 hu h hok;have rds:∀{st2:St},gk (.append sz bytes s x) t st.ab st2.ab→s.rd st2.env=s.rd st.env∧x.rd st2.env=x.rd st.env∧st2.m=st.m:=fun ha =>
  ⟨dm fun i hi=>ha.e i (List.mem_append_left _ hi),dm fun i hi=>ha.e i (List.mem_append_right _ hi),(ha.m (by cases t<;>rfl)).symm⟩
 have hsl:∀{i:Nat},s=.t i→∀{st2:St},gk (.append sz bytes s x) t st.ab st2.ab→look st.env i=look st2.env i:=by intro i hs st2 ha;exact ha.e _ (by subst hs;exact List.mem_append_left _ (List.mem_singleton.2 rfl))
 have Lm:∀{i:Nat},s=.t i→∀{st2:St},gk (.append sz bytes s x) t st.ab st2.ab→∀{l:Loc},(t=.none∨t.gC l=true)→aU st.lk i=some l→aU st2.lk i=some l:=by
  intro i hs st2 ha l ht hl;subst hs;have:=ha.lk i rfl;have hl':st.ab.k i=some l:=hl;rw[hl'] at this;refine wL this ?_;rcases ht with rfl | ht
  ·rfl
  ·by_cases hn:t=.none
   ·subst hn;rfl
   ·rw[EC hn];exact ht
 have ok2:∀{st2:St},gk (.append sz bytes s x) t st.ab st2.ab→(IK.append sz bytes s x).ok t st2=true:=by
  intro st2 ha
  cases s with
  |c v0=>cases t<;>first | exact ok_none | (simp[IK.ok] at hok)
  |t i =>
   rcases sA hok with rfl | ⟨hn,hk⟩
   ·exact ok_none
   ·have e0:=hsl rfl ha;have:eE st2.env st2.lk i t=true:=by
     unfold eE at hk ⊢;rw[←e0];split at hk
     ·rfl
     ·rfl
     ·split at hk
      ·rename_i l el;rw[Lm rfl ha (.inr hk) el];exact hk
      ·cases hk
    cases t<;>first | exact ok_none | exact this
 have stay:∀{v0:IV}{c0:cV},some (v0,c0,st)=some (v,c,st1)→(∀{st2:St},Uq st2.lk→gk (.append sz bytes s x) t st.ab st2.ab→(IK.append sz bytes s x).run call st2=some (v0,c0,st2)) →
   ∃D:Diff,mM (.append sz bytes s x) t st.ab D∧st1.ab=D.app st.ab∧Uq st1.lk∧∀st2:St,Uq st2.lk→gk (.append sz bytes s x) t st.ab st2.ab →
    (IK.append sz bytes s x).ok t st2=true∧∃st3,(IK.append sz bytes s x).run call st2=some (v,c,st3)∧st3.ab=D.app st2.ab∧Uq st3.lk:=by
  intro v0 c0 h hr;simp only[Option.some.injEq,Prod.mk.injEq] at h;obtain⟨rfl,rfl,rfl⟩:=h;exact⟨{},.nil,(Diff.fQ _).symm,hu,fun st2 hu2 ha=>⟨ok2 ha,st2,hr hu2 ha,(Diff.fQ _).symm,hu2⟩⟩
 simp only[IK.run] at h;split at h
 ·rename_i xv sv ex es;split at h
  ·cases h
  ·rename_i xs n esrc;have esrc2:∀{st2:St},st2.m=st.m→dG st2.lb st2.m sz xv=some (xs,n):=fun e=>by rw[e,oS (lb:=st.lb)];exact esrc
   split at h
   ·rename_i hcond;split at h
    ·split at h
     ·rename_i hn;refine stay h fun {st2} hu2 ha=>?_;obtain⟨r1,r2,r3⟩:=rds ha;simp only[IK.run,r1,r2,ex,es,esrc2 r3,hcond,if_true,if_pos hn]
     ·rename_i hn;split at h
      ·rename_i hle;refine stay h fun {st2} hu2 ha=>?_;obtain⟨r1,r2,r3⟩:=rds ha;simp only[IK.run,r1,r2,ex,es,esrc2 r3,hcond,if_true,if_neg hn,if_pos hle]
      ·cases h
    ·rename_i row len;have own:∀{st2:St},Uq st2.lk→gk (.append sz bytes s x) t st.ab st2.ab→st2.owner s sz=st.owner s sz:=by
      intro st2 hu2 ha;obtain⟨r1,r2,r3⟩:=rds ha
      cases s with
      |c v0=>rfl
      |t i =>
       have e0:=hsl rfl ha;have ec:c8 st2.env i=c8 st.env i:=iX e0;simp only[St.owner,ec];split
       ·rfl
       ·rename_i hany;rcases sA hok with rfl | ⟨hn,hk⟩
        ·have hw:=ha.w rfl;have h1:aU st2.lk i=aU st.lk i:=(congrFun (congrArg Ab.k hw) i).symm;rw[h1];split
         ·rename_i l el;rw[St.Ce (st:=st) (st2:=st2) (fun j _=>congrFun (congrArg Ab.e hw) j) (fun k _ _=>congrFun (congrArg Ab.b hw) k) (fun _ _ _=>r3)]
         ·rfl
        ·have hv:dy st.env i=.sl row len:=by rw[Arg.ET] at es;simpa using es
         obtain⟨l,el,hh⟩:=vU hk hv hany;have hcap:st2.dn l=st.dn l:=by
          refine St.Ce (fun j q=>?_) (fun k off q=>?_) (fun _ _ _=>r3)
          ·rcases lK hh with ⟨j',h1,h2⟩ | ⟨_,_,_,h2⟩ | ⟨_,_,_,h2⟩
           ·rw[q] at h2;cases h2;exact ha.j j h1
           ·rw[q] at h2;cases h2
           ·rw[q] at h2;cases h2
          ·rcases lK hh with ⟨_,_,h2⟩ | ⟨k',off',h1,h2⟩ | ⟨_,_,_,h2⟩
           ·rw[q] at h2;cases h2
           ·rw[q] at h2;cases h2;exact ha.b k fun l' hl=>by subst h1;simp only[IK.bx,Option.some.injEq] at hl;subst hl;exact List.mem_singleton.2 rfl
           ·rw[q] at h2;cases h2
         rw[el,Lm rfl ha (.inr hh) el];simp only[hcap]
     split at h
     ·rename_i l eo;split at h
      ·rename_i hle;split at h
       ·rename_i s1 ed;simp only[Option.some.injEq,Prod.mk.injEq] at h;obtain⟨rfl,rfl,rfl⟩:=h;obtain⟨i,rfl,hcap,hl⟩:=EL eo;have hlt:l=.slot i∨t=.none∨t.gC l=true:=by
         rcases hl with q | ⟨q1,q2⟩
         ·exact .inl q
         ·rcases sA hok with q | ⟨hn,hk⟩
          ·exact .inr (.inl q)
          ·have hv:dy st.env i=.sl row len:=by rw[Arg.ET] at es;simpa using es
           obtain⟨l',el,hh⟩:=vU hk hv q1;rw[q2] at el;cases el;exact .inr (.inr hh)
        have hwild:t=.none→(IK.append sz bytes (.t i) x).nS t=true:=fun q=>by subst q;rfl
        have hdr:∀j,l=.slot j→j∈(IK.append sz bytes (.t i) x).dr t∨(IK.append sz bytes (.t i) x).nS t=true:=by
         intro j hj;rcases hlt with q | q | q
         ·rw[hj] at q;cases q;left;cases t<;>simp[IK.dr]
         ·exact .inr (hwild q)
         ·rcases lK q with ⟨j',h1,h2⟩ | ⟨_,_,_,h2⟩ | ⟨_,_,_,h2⟩
          ·rw[hj] at h2;cases h2;subst h1;left;simp[IK.dr]
          ·rw[hj] at h2;cases h2
          ·rw[hj] at h2;cases h2
        obtain⟨D,d1,d2,d3,d4,d5,d6,d7,d8⟩:=Nv hu hcap ed;refine⟨D,.mk' d1 (fun j hj=>hdr j (d4 j hj)) (fun j l' hj=>?_) (fun j o hj=>⟨fun bl hbl=>?_,by simp⟩) (fun _=>⟨rfl,by cases t<;>rfl⟩) rfl,d2,d3,fun st2 hu2 ha=>⟨ok2 ha,?_⟩⟩
        ·rcases d5 j l' hj with q | ⟨q1,j',q2⟩
         ·rcases hdr j q with q | q
          ·exact .inl q
          ·exact .inr (.inr (.inr q))
         ·rcases hdr j' q2 with q | q
          ·exact .inr (.inl ⟨j',q,q1.trans q2⟩)
          ·exact .inr (.inr (.inr q))
        ·obtain⟨off,q⟩:=d6 j o hj;rcases hlt with q' | q' | q'
         ·rw[q] at q';cases q'
         ·subst q';simp[IK.bx] at hbl
         ·rcases lK q' with ⟨_,_,h2⟩ | ⟨k',off',h1,h2⟩ | ⟨_,_,_,h2⟩
          ·rw[q] at h2;cases h2
          ·rw[q] at h2;cases h2;subst h1;simp only[IK.bx,Option.some.injEq] at hbl;subst hbl;exact List.mem_singleton.2 rfl
          ·rw[q] at h2;cases h2
        ·obtain⟨r1,r2,r3⟩:=rds ha
         obtain⟨s3,e3,a3,u3⟩:=d8 st2 hu2 (fun j q=>by
           rcases hlt with q' | q' | q'
           ·rw[q] at q';cases q';exact hsl rfl ha
           ·exact congrFun (congrArg Ab.e (ha.w (hwild q'))) j
           ·rcases lK q' with ⟨j',h1,h2⟩ | ⟨_,_,_,h2⟩ | ⟨_,_,_,h2⟩
            ·rw[q] at h2;cases h2;exact ha.j j h1
            ·rw[q] at h2;cases h2
            ·rw[q] at h2;cases h2) (fun k off q=>by
           rcases hlt with q' | q' | q'
           ·rw[q] at q';cases q'
           ·exact congrFun (congrArg Ab.b (ha.w (hwild q'))) k
           ·rcases lK q' with ⟨_,_,h2⟩ | ⟨k',off',h1,h2⟩ | ⟨_,_,_,h2⟩
            ·rw[q] at h2;cases h2
            ·rw[q] at h2;cases h2;exact ha.b k fun l' hl=>by subst h1;simp only[IK.bx,Option.some.injEq] at hl;subst hl;exact List.mem_singleton.2 rfl
            ·rw[q] at h2;cases h2) (fun _ _ _=>r3)
         refine⟨s3,?_,a3,u3⟩;simp only[IK.run,r1,r2,ex,es,esrc2 r3,hcond,if_true,own hu2 ha,eo,if_pos hle,e3]
       ·cases h
      ·cases h
     ·rename_i eo;split at h
      ·rename_i hn;refine stay h fun {st2} hu2 ha=>?_;obtain⟨r1,r2,r3⟩:=rds ha;simp only[IK.run,r1,r2,ex,es,esrc2 r3,hcond,if_true,own hu2 ha,eo,if_pos hn]
      ·cases h
    ·cases h
   ·cases h
 ·cases h
end Go.Idl
namespace Go.Idl
variable {call:bW}
theorem kL {e:Env}{i id off:Nat}{c:cV}(he:look e i=some (.pB id off,c)):∀{as:List Arg},Arg.t i∈as→id∈aM e as
 |.t j::r,h=>by
  simp only[aM];rcases List.mem_cons.1 h with q | q
  ·cases q;rw[he];exact List.mem_cons_self
  ·split
   ·exact List.mem_cons_of_mem _ (kL he q)
   ·exact kL he q
 |.c v::r,h=>by
  simp only[aM];rcases List.mem_cons.1 h with q | q
  ·cases q
  ·exact kL he q
theorem wg (hk:dK call) {st st1:St}{cl:Callee}{args:List IV}{fk:List Arg}{v:IV}{c:cV}(hu:Uq st.lk) (h:dC call st cl args fk=some (v,c,st1)) :
  ∃m',st1.ab=({ m:=some m',kp:=fun _ l=>Jj (fun i=>!(aM st.env fk).contains i) l }:Diff).app st.ab∧Uq st1.lk∧(∀j∈aM st.env fk,m'.get j=st.m.get j) ∧
   ∀st2:St,Uq st2.lk→st2.m=st.m→aM st2.env fk=aM st.env fk→∃st3,dC call st2 cl args fk=some (v,c,st3) ∧
    st3.ab=({ m:=some m',kp:=fun _ l=>Jj (fun i=>!(aM st.env fk).contains i) l }:Diff).app st2.ab∧Uq st3.lk:=by
 unfold dC at h;simp only[aK] at h;split at h
 ·rename_i r hs er ehs
  cases ehs
  split at h
  ·cases h
  ·rename_i m em;split at h
   ·cases h
   ·rename_i v' m1 ec;split at h
    ·rename_i m2 lk eu elk
     cases elk
     simp only[Option.some.injEq,Prod.mk.injEq] at h;obtain⟨rfl,rfl,rfl⟩:=h
     have key:∀s:St,Uq s.lk→({ s with m:=m2,lk:=je (fun i=>!(aM st.env fk).contains i) s.lk }:St).ab
       = ({ m:=some m2,kp:=fun _ l=>Jj (fun i=>!(aM st.env fk).contains i) l }:Diff).app s.ab:=by
      intro s hs;simp only[St.ab,Diff.app,Ab.mk.injEq];refine⟨by simp,?_,trivial,rfl⟩;funext i;rw[AO,jn hs (fun _ l=>Jj (fun i=>!(aM st.env fk).contains i) l)]
     refine⟨m2,key st hu,by rw[AO];exact hu.filter _,fun j hj=>?_,fun st2 hu2 e1 e2=>⟨_,?_,key st2 hu2,by rw[AO];exact hu2.filter _⟩⟩
     ·obtain⟨a1,-,-⟩:=nL _ _ _ em;obtain⟨-,-,b3⟩:=lH _ _ _ _ eu;have hsz:=(hk _ _ _ _ _ ec).size;rw[b3];split
      ·rfl
      ·rename_i q;have hlt:¬j<m1.size:=fun q2=>q ⟨hj,q2⟩;simp only[IM.get,List.getD_eq_getElem?_getD];rw[List.getElem?_eq_none (by simp only[IM.size] at hlt;omega),List.getElem?_eq_none (by simp only[IM.size] at hlt hsz a1;omega)]
     ·simp only[dC,aK,er,e1,e2,em,ec,eu]
    ·cases h
 ·cases h
theorem Hi {f:Nat→Bool}{l:Loc}(h:Jj f l=false):l=.marked∨∃id o,l=.B id o∧f id=true:=by
 unfold Jj at h;split at h
 ·rename_i id o;exact .inr ⟨id,o,rfl,by simpa using h⟩
 ·exact .inl rfl
 ·cases h
theorem xV {k:IK}{s:Ab}{m':IM}{e:Env}(he:s.e=look e) (hc:k.jx=true) (hb:k.bx .none=some []) (hl:k.ly=false) (hm:k.mem .none=true) (hd:∀i,i∈aM e k.fk→m'.get i=s.m.get i) :
  mM k .none s { m:=some m',kp:=fun _ l=>Jj (fun i=>!(aM e k.fk).contains i) l } where
 dst:=rfl
 dr i h:=by cases h
 kp i l h:=by
  refine .inr (.inr (.inl ?_))
  cases k<;>simp[IK.jx] at hc<;>(rcases Hi h with rfl | ⟨_,_,rfl,_⟩<;>rfl)
 bs j o h:=by cases h
 m _:=⟨hl,hm⟩
 cd m'' h1 _ i id off c hi hs:=by
  cases h1
  rw[he] at hs;exact hd _ (kL hs hi)
 Hx _ i id off c hi hs i' o:=by rw[he] at hs;have hmem:=kL hs hi;simp[Jj,hmem]
theorem HE (hk:dK call) (f:FuncId) (as hs:List Arg) (t:cW):ug call (.aj f as hs) t:=by
 intro st v c st1 hu h hok;have ht:=fp hok rfl;subst ht;simp only[IK.run] at h;split at h
 ·rename_i vs ev;obtain⟨m',a1,u1,g1,k1⟩:=wg hk hu h;refine⟨_,xV (k:=.aj f as hs) rfl rfl rfl rfl rfl g1,a1,u1,fun st2 hu2 ha=>⟨ok_none,?_⟩⟩;have e1:de st2.env as=de st.env as:=jJ fun i hi=>ha.e i (List.mem_append_left _ hi);have e2:aM st2.env hs=aM st.env hs:=jl fun i hi=>ha.e i (List.mem_append_right _ hi);obtain⟨s3,q1,q2,q3⟩:=k1 st2 hu2 (ha.m rfl).symm e2;exact⟨s3,by simp only[IK.run,e1,ev];exact q1,q2,q3⟩
 ·cases h
theorem HF (hk:dK call) (g:Arg) (as hs:List Arg) (t:cW):ug call (.fH g as hs) t:=by
 intro st v c st1 hu h hok;have ht:=fp hok rfl;subst ht;simp only[IK.run] at h;split at h
 ·rename_i vs ev;split at h
  ·rename_i f fs cs eg;obtain⟨m',a1,u1,g1,k1⟩:=wg hk hu h;refine⟨_,xV (k:=.fH g as hs) rfl rfl rfl rfl rfl g1,a1,u1,fun st2 hu2 ha=>⟨ok_none,?_⟩⟩;have e0:g.rd st2.env=g.rd st.env:=dm fun i hi=>ha.e i (List.mem_append_left _ hi);have e1:de st2.env as=de st.env as:=jJ fun i hi=>ha.e i (List.mem_append_right _ (List.mem_append_left _ hi));have e2:aM st2.env hs=aM st.env hs:=jl fun i hi=>ha.e i (List.mem_append_right _ (List.mem_append_right _ hi));obtain⟨s3,q1,q2,q3⟩:=k1 st2 hu2 (ha.m rfl).symm e2;exact⟨s3,by simp only[IK.run,e0,e1,ev,eg];exact q1,q2,q3⟩
  ·rename_i id eg;obtain⟨m',a1,u1,g1,k1⟩:=wg hk hu h;refine⟨_,xV (k:=.fH g as hs) rfl rfl rfl rfl rfl g1,a1,u1,fun st2 hu2 ha=>⟨ok_none,?_⟩⟩;have e0:g.rd st2.env=g.rd st.env:=dm fun i hi=>ha.e i (List.mem_append_left _ hi);have e1:de st2.env as=de st.env as:=jJ fun i hi=>ha.e i (List.mem_append_right _ (List.mem_append_left _ hi));have e2:aM st2.env hs=aM st.env hs:=jl fun i hi=>ha.e i (List.mem_append_right _ (List.mem_append_right _ hi));obtain⟨s3,q1,q2,q3⟩:=k1 st2 hu2 (ha.m rfl).symm e2;exact⟨s3,by simp only[IK.run,e0,e1,ev,eg];exact q1,q2,q3⟩
  ·cases h
 ·cases h
theorem Yw (hk:dK call) (k:IK) (t:cW):ug call k t:=by
 cases k with
 |mv x xf lk=>exact RB x xf lk t
 |p o as=>exact Uy o as t
 |same x=>exact Li x t
 |load agg n a lk=>exact Lh agg n a lk t
 |store n a x xf=>exact HK n a x xf t
 |bX k z cp=>exact Et k z cp t
 |iv z cp=>exact Es z cp t
 |f5 k n x=>exact Lf k n x t
 |nZ n x=>exact Le n x t
 |buildSlice sz len z ps as=>exact xg sz len z ps as t
 |fb x=>exact AN x t
 |me sz b z l c=>exact HH sz b z l c t
 |kO sz b z l c=>exact HG sz b z l c t
 |append sz b s x=>exact Eu sz b s x t
 |copy sz d s=>exact Lg sz d s t
 |aj f as hs=>exact HE hk f as hs t
 |fH g as hs=>exact HF hk g as hs t
 |mkMap=>exact HJ t
 |lookup d z ok m k=>exact Ev d z ok m k t
 |jy d m k v=>exact Ey d m k v t
 |kt m=>exact Ew m t
 |fa k x=>exact AM k x t
 |ee a=>exact Cw a t
structure kj (o:dh) (s s2:Ab):Prop where
 k:gk o.k o.tag s s2
 g:∀j w,o.guard=some (j,w)→s.e j=s2.e j
structure kA (o:dh) (s:Ab) (D:Diff):Prop where
 dst:D.dst.map (·.1)=o.dst
 dr:∀i,D.dr i=true→i∈o.k.dr o.tag∨o.k.nS o.tag=true
 kp:∀i l,D.kp i l=false→(∃d,o.dst=some d∧(i=d∨l=.slot d))∨i∈o.k.dr o.tag∨(∃j∈o.k.dr o.tag,l=.slot j)∨o.k.tQ o.tag l=true∨o.k.nS o.tag=true
 bs:∀j x,D.bs=some (j,x)→(∀l,o.k.bx o.tag=some l→j∈l)∧∀a b c d,o.k ≠ .load a b c d
 m:D.m≠none→o.k.ly=false∧o.k.mem o.tag=true
 cd:∀m',D.m=some m'→o.k.jx=true→∀i id off c,Arg.t i∈o.k.fk→s.e i=some (.pB id off,c)→m'.get id=s.m.get id
 Hx:o.k.jx=true→∀i id off c,Arg.t i∈o.k.fk→s.e i=some (.pB id off,c)→∀i' x,D.kp i' (.B id x)=true∨o.dst=some i'
 V0:∀d v c l,D.dst=some (d,v,c,some l)→(∃j,o.k=.mv (.t j) false true∧l=.slot j)∨(l=.marked∧((∃x,o.k=.fb x)∨∃a b c d,o.k=.buildSlice 1 a b c d)) ∨
  (∃n a k off,o.k=.load false n a true∧l=.L k off∧∀b,o.k.bx o.tag=some b→k∈b) ∨
  (∃n a id off,o.k=.load false n a true∧l=.B id off∧(o.k.mem o.tag=true∨∃h x c',o.tag=.cd h∧s.e h=some (.pB id x,c')))
theorem EA {k:IK}{e:Env}{l:Loc}(h:k.link e=some l):(∃j,k=.mv (.t j) false true∧l=.slot j)∨(l=.marked∧((∃x,k=.fb x)∨∃a b c d,k=.buildSlice 1 a b c d)) ∨
  (∃n a off,k=.load false n a true∧((∃k',a.rd e=some (.pL k' off)∧l=.L k' off)∨(∃id,a.rd e=some (.pB id off)∧l=.B id off))):=by
 unfold IK.link at h;split at h
 ·cases h;exact .inl ⟨_,rfl,rfl⟩
 ·cases h;exact .inr (.inl ⟨rfl,.inl ⟨_,rfl⟩⟩)
 ·cases h;exact .inr (.inl ⟨rfl,.inr ⟨_,_,_,_,rfl⟩⟩)
 ·split at h
  ·rename_i k' off e1;cases h;exact .inr (.inr ⟨_,_,off,rfl,.inl ⟨k',e1,rfl⟩⟩)
  ·rename_i id off e1;cases h;exact .inr (.inr ⟨_,_,off,rfl,.inr ⟨id,e1,rfl⟩⟩)
  ·cases h
 ·cases h
theorem qC {k:IK}{t:cW}{e e2:Env}{s s2:Ab}(ha:gk k t s s2) (h1:s.e=look e) (h2:s2.e=look e2):k.link e2=k.link e:=by
 unfold IK.link;split
 ·rfl
 ·rfl
 ·rfl
 ·rename_i n a;have:a.rd e2=a.rd e:=dm fun i hi=>by rw[←h1,←h2];exact ha.e i hi
  rw[this]
 ·rfl
theorem WI (hk:dK call) (o:dh) {st st':St}(hu:Uq st.lk) (h:o.run call st=some st') :
  ∃D:Diff,kA o st.ab D∧st'.ab=D.app st.ab∧Uq st'.lk∧∀st2:St,Uq st2.lk→kj o st.ab st2.ab→∃st3,o.run call st2=some st3∧st3.ab=D.app st2.ab∧Uq st3.lk:=by
 have hrun:=dh.xK h;have hok0:gate st.env o.guard=some true→o.k.ok o.tag st=true:=by
  intro hg;simp only[dh.run,hg] at h;split at h
  ·assumption
  ·cases h
 have gd:∀{st2:St},kj o st.ab st2.ab→gate st2.env o.guard=gate st.env o.guard:=by
  intro st2 ha
  cases hg:o.guard with
  |none=>rfl
  |some p =>obtain⟨j,w⟩:=p;have:look st.env j=look st2.env j:=ha.g j w hg;simp only[gate,this]
 unfold dh.fF at hrun;split at hrun
 ·rename_i eg;have hok:=hok0 eg;split at hrun
  ·rename_i v c s1 ek;obtain⟨D,w,a1,u1,det⟩:=Yw hk o.k o.tag st v c s1 hu ek hok;split at hrun
   ·rename_i s2 ep
    cases hd:o.dst with
    |none =>
     rw[hd] at ep hrun;simp only[St.put,Option.some.injEq] at ep;subst ep;simp only[Option.some.injEq] at hrun;subst hrun;refine⟨D,⟨by rw[w.dst,hd];rfl,w.dr,fun i l hl=>.inr (w.kp i l hl),w.bs,w.m,w.cd,fun q2 i id off c' q3 q4 i' x=>.inl (w.Hx q2 i id off c' q3 q4 i' x),fun d v' c' l q=>(by rw[w.dst] at q;cases q)⟩,a1,u1,fun st2 hu2 ha=>?_⟩
     ·obtain⟨ok2,s3,e3,a3,u3⟩:=det st2 hu2 ha.k;refine⟨s3,?_,a3,u3⟩;simp only[dh.run,ok2,dh.fF,gd ha,eg,e3,hd,St.put]
    |some d =>
     rw[hd] at ep hrun;obtain⟨p1,p2⟩:=Bf u1 ep w.dst a1;have hkp:∀i l,(D.put d v c none).kp i l=false→(∃d,o.dst=some d∧(i=d∨l=.slot d))∨i∈o.k.dr o.tag∨(∃j∈o.k.dr o.tag,l=.slot j)∨o.k.tQ o.tag l=true∨o.k.nS o.tag=true:=by
      intro i l hl;simp only[Diff.put,Bool.and_eq_false_iff] at hl;rcases hl with hl | hl
      ·exact .inl ⟨d,hd,jd hl⟩
      ·exact .inr (w.kp i l hl)
     have hhid:o.k.jx=true→∀i id off c,Arg.t i∈o.k.fk→st.ab.e i=some (.pB id off,c)→∀i' x,(D.put d v c none).kp i' (.B id x)=true∨o.dst=some i':=by
      intro q2 i id off c' q3 q4 i' x;by_cases hi:i'=d
      ·exact .inr (by rw[hd,hi])
      ·left;simp[Diff.put,iY,qk hi,w.Hx q2 i id off c' q3 q4 i' x]
     have other:∀st2:St,Uq st2.lk→kj o st.ab st2.ab→o.k.ok o.tag st2=true∧∃s3,o.k.run call st2=some (v,c,s3)∧∃s4,s3.put (some d) v c=some s4∧s4.ab=(D.put d v c none).app st2.ab∧Uq s4.lk:=by
      intro st2 hu2 ha;obtain⟨ok2,s3,e3,a3,u3⟩:=det st2 hu2 ha.k;have hp:∃s4,s3.put (some d) v c=some s4:=by simp only[St.put,aK,ck];exact⟨_,rfl⟩
      obtain⟨s4,e4⟩:=hp;obtain⟨p3,p4⟩:=Bf u3 e4 w.dst a3;exact⟨ok2,s3,e3,s4,e4,p3,p4⟩
     have nolink:some s2=some st'→(∀e2:Env,∀s2':Ab,s2'.e=look e2→gk o.k o.tag st.ab s2'→∀l,o.k.link e2=some l→l=.slot d)→∃D:Diff,kA o st.ab D∧st'.ab=D.app st.ab∧Uq st'.lk∧∀st2:St,Uq st2.lk→kj o st.ab st2.ab→∃st3,o.run call st2=some st3∧st3.ab=D.app st2.ab∧Uq st3.lk:=by
      intro hs hl;simp only[Option.some.injEq] at hs;subst hs;refine⟨D.put d v c none,⟨by simp[Diff.put,hd],w.dr,hkp,w.bs,w.m,w.cd,hhid,fun d' v' c' l q=>by simp[Diff.put] at q⟩,p1,p2,fun st2 hu2 ha=>?_⟩;obtain⟨ok2,s3,e3,s4,e4,p3,p4⟩:=other st2 hu2 ha;refine⟨s4,?_,p3,p4⟩;simp only[dh.run,ok2,dh.fF,gd ha,eg,e3,hd,e4]
      cases hlk:o.k.link st2.env with
      |none=>rfl
      |some l=>simp only[hl st2.env st2.ab rfl ha.k l hlk,if_true]
     split at hrun
     ·rename_i d' l ed el
      cases ed
      split at hrun
      ·rename_i hsl;exact nolink hrun fun e2 s2' h2 ha l' hl'=>by
        rw[qC ha rfl h2,el] at hl'
        cases hl';exact hsl
      ·rename_i hsl;simp only[Option.some.injEq] at hrun;subst hrun;obtain⟨q1,q2⟩:=Gb (l:=l) p2 p1;refine⟨D.put d v c (some l),⟨by simp[Diff.put,hd],w.dr,hkp,w.bs,w.m,w.cd,hhid,fun d' v' c' l' q=>?_⟩,q1,q2,fun st2 hu2 ha=>?_⟩
       ·simp only[Diff.put,Option.some.injEq,Prod.mk.injEq] at q;obtain⟨rfl,rfl,rfl,rfl⟩:=q;rcases EA el with z | z | ⟨n,a,off,z1,⟨k',z2,z3⟩ | ⟨id,z2,z3⟩⟩
        ·exact .inl z
        ·exact .inr (.inl z)
        ·refine .inr (.inr (.inl ⟨n,a,k',off,z1,z3,fun b hb=>?_⟩));rw[z1] at hok hb;have hok':bq st.env a o.tag=true:=by
          cases ht:o.tag<;>rw[ht] at hok<;>first | exact hok | rfl
         have hspec:=kI hok' z2
         cases ht:o.tag with
         |none=>rw[ht] at hb;simp[IK.bx] at hb
         |dB=>rw[ht] at hspec;obtain⟨_,_,q⟩:=hspec;cases q
         |own k=>rw[ht] at hspec hb;obtain⟨_,q⟩:=hspec;cases q;simp only[IK.bx,Option.some.injEq] at hb;subst hb;exact List.mem_singleton.2 rfl
         |mem=>rw[ht] at hspec;exact absurd hspec (by simp[ny,IV.jO])
         |cd h=>rw[ht] at hspec;obtain⟨_,_,_,_,q,_⟩:=hspec;cases q
         |slot j=>rw[ht] at hspec;exact False.elim hspec
        ·refine .inr (.inr (.inr ⟨n,a,id,off,z1,z3,?_⟩));rw[z1] at hok ⊢;have hok':bq st.env a o.tag=true:=by
          cases ht:o.tag<;>rw[ht] at hok<;>first | exact hok | rfl
         have hspec:=kI hok' z2
         cases ht:o.tag with
         |none=>exact .inl rfl
         |dB=>rw[ht] at hspec;obtain⟨_,_,q⟩:=hspec;cases q
         |own k=>rw[ht] at hspec;obtain⟨_,q⟩:=hspec;cases q
         |mem=>exact .inl rfl
         |cd h=>rw[ht] at hspec;obtain⟨id',off',x,c',q,q'⟩:=hspec;cases q;exact .inr ⟨h,x,c',rfl,q'⟩
         |slot j=>rw[ht] at hspec;exact False.elim hspec
       ·obtain⟨ok2,s3,e3,s4,e4,p3,p4⟩:=other st2 hu2 ha;obtain⟨z1,z2⟩:=Gb (l:=l) p4 p3;refine⟨_,?_,z1,z2⟩;have hlk:o.k.link st2.env=some l:=by rw[qC ha.k (e:=st.env) rfl rfl];exact el
        simp only[dh.run,ok2,dh.fF,gd ha,eg,e3,hd,e4,hlk,if_neg hsl]
     ·rename_i hno;exact nolink hrun fun e2 s2' h2 ha l' hl'=>by
       rw[qC ha rfl h2] at hl';exact (hno d l' rfl hl').elim
   ·cases hrun
  ·cases hrun
 ·rename_i eg;have hwithin:∀D:Diff,D=(match o.dst with | none=>({}:Diff) | some d=>({}:Diff).put d (.db []) .any none)→kA o st.ab D:=by
   intro D hD
   cases hd:o.dst with
   |none =>rw[hd] at hD;subst hD;exact⟨hd.symm,fun _ h=>(by cases h),fun _ _ h=>(by cases h),fun _ _ h=>(by cases h),fun h=>absurd rfl h,fun _ h=>(by cases h),fun _ _ _ _ _ _ _ _ _=>.inl rfl,fun _ _ _ _ h=>(by cases h)⟩
   |some d =>
    rw[hd] at hD;subst hD;refine⟨by simp[Diff.put,hd],fun _ h=>(by cases h),fun i l h=>?_,fun _ _ h=>(by cases h),fun h=>absurd rfl h,fun _ h=>(by cases h),fun _ i id off c _ _ i' x=>?_,fun _ _ _ _ h=>(by simp[Diff.put] at h)⟩
    ·simp only[Diff.put,Bool.and_true] at h;exact .inl ⟨d,hd,jd h⟩
    ·by_cases hi:i'=d
     ·exact .inr (by rw[hd,hi])
     ·left;simp[Diff.put,iY,qk hi]
  refine⟨_,hwithin _ rfl,?_⟩
  cases hd:o.dst with
  |none =>rw[hd] at hrun;simp only[St.put,Option.some.injEq] at hrun;subst hrun;refine⟨(Diff.fQ _).symm,hu,fun st2 hu2 ha=>⟨st2,?_,(Diff.fQ _).symm,hu2⟩⟩;simp only[dh.run,dh.fF,gd ha,eg,hd,St.put]
  |some d =>
   rw[hd] at hrun;obtain⟨p1,p2⟩:=Bf (D:={}) (s0:=st.ab) hu hrun rfl (Diff.fQ _).symm;refine⟨p1,p2,fun st2 hu2 ha=>?_⟩;have hp:∃s4,st2.put (some d) (.db []) .any=some s4:=by simp only[St.put,aK,ck];exact⟨_,rfl⟩
   obtain⟨s4,e4⟩:=hp;obtain⟨p3,p4⟩:=Bf (D:={}) (s0:=st2.ab) hu2 e4 rfl (Diff.fQ _).symm;refine⟨s4,?_,p3,p4⟩;simp only[dh.run,dh.fF,gd ha,eg,hd,e4]
 ·cases hrun
end Go.Idl
namespace Go.Idl
variable {call:bW}
def cW.GA:cW→List Nat
 |.cd h=>[h]
 |.slot j=>[j]
 |_=>[]
def dh.reads (o:dh):List Nat:=o.k.rd++(o.tag.GA++(match o.guard with | some (j,_)=>[j] | none=>[]))
def dh.wr (o:dh):List Nat:=(match o.dst with | some d=>[d] | none=>[])++o.k.dr o.tag
def fB:Option (List Nat)→Option (List Nat)→Bool
 |some l,some l'=>l.all fun j=>!l'.contains j
 |none,some []=>true
 |some [],none=>true
 |_,_=>false
def IK.AH:IK→Bool
 |.load ..=>true
 |_=>false
theorem tP {k:IK}(h:k.AH=true):∃a b c d,k=.load a b c d:=by
 cases k<;>first | exact⟨_,_,_,_,rfl⟩ | cases h
def KC (l:List Arg) (h:Nat):Bool:=l.any fun a=>match a with | .t i=>Nat.beq i h | _=>false
def IK.marks:IK→Bool
 |.fb _=>true
 |.buildSlice n ..=>Nat.beq n 1
 |_=>false
def half (a b:dh):Bool :=
 (b.wr.all fun j=>!a.reads.contains j) &&
 (match b.dst with | some d=>!a.wr.contains d | none=>true) &&
 (b.k.AH||fB (a.k.bx a.tag) (b.k.bx b.tag)) &&
 ((b.k.ly || !b.k.mem b.tag)||(!a.k.mem a.tag&&(match a.tag with | .cd h=>b.k.jx&&KC b.k.fk h | _=>true))) &&
 !(a.k.marks&&b.k.jx)
def indep (a b:dh):Bool:=(a.k.ly||b.k.ly)&&half a b&&half b a && !a.k.nS a.tag && !b.k.nS b.tag&&(match a.tag with | .cd h=>!a.wr.contains h | _=>true)
structure G9 (a b:dh):Prop where
 rd:∀j∈b.wr,j∉a.reads
 dst:∀d,b.dst=some d→d∉a.wr
 bx:b.k.AH=true∨fB (a.k.bx a.tag) (b.k.bx b.tag)=true
 mem:b.k.ly=true∨b.k.mem b.tag=false∨(a.k.mem a.tag=false∧∀h,a.tag=.cd h→b.k.jx=true∧Arg.t h∈b.k.fk)
 marks:a.k.marks=true→b.k.jx=false
theorem Hw {l:List Arg}{h:Nat}(e:KC l h=true):Arg.t h∈l:=by
 unfold KC at e;rw[List.any_eq_true] at e;obtain⟨a,ha,q⟩:=e;split at q
 ·rw[beq_iff.1 q] at ha;exact ha
 ·cases q
theorem zf {a b:dh}(h:half a b=true):G9 a b:=by
 unfold half at h;simp only[Bool.and_eq_true,Bool.or_eq_true,Bool.not_eq_true',List.all_eq_true,List.contains_eq_mem,decide_eq_false_iff_not] at h;obtain⟨⟨⟨⟨h1,h2⟩,h3⟩,h4⟩,h5⟩:=h;refine⟨h1,fun d hd=>?_,h3,?_,fun hm=>?_⟩
 ·rw[hd] at h2;simpa using h2
 ·rcases h4 with (q | q) | ⟨q1,q2⟩
  ·exact .inl q
  ·exact .inr (.inl q)
  ·refine .inr (.inr ⟨q1,fun h ht=>?_⟩);rw[ht] at q2;simp only[Bool.and_eq_true] at q2;exact⟨q2.1,Hw q2.2⟩
 ·simp only[hm,Bool.true_and] at h5;exact h5
theorem w9 {k:IK}{t:cW}{l:Loc}(h:k.tQ t l=true):k.ly=false∧((l=.marked∧k.jx=true)∨(∃k' off,l=.L k' off∧(k.bx t=none∨k.bx t=some [k'])∧k.AH=false)∨(∃id off,l=.B id off∧k.mem t=true)):=by
 unfold IK.tQ at h;split at h
 ·refine⟨rfl,.inr (.inl ⟨_,_,rfl,.inr ?_,rfl⟩)⟩;rw[beq_iff.1 h];rfl
 ·cases h
 ·exact⟨rfl,.inr (.inr ⟨_,_,rfl,rfl⟩)⟩
 ·cases h
 ·rename_i q1 q2;refine⟨rfl,.inr (.inl ⟨_,_,rfl,.inl ?_,rfl⟩)⟩
  cases t<;>first | rfl | exact (q1 _ rfl).elim | exact (q2 rfl).elim
 ·rename_i q1 q2;refine⟨rfl,.inr (.inr ⟨_,_,rfl,?_⟩)⟩
  cases t<;>first | rfl | exact (q1 _ rfl).elim
 ·cases h
 ·exact⟨rfl,.inr (.inr ⟨_,_,rfl,rfl⟩)⟩
 ·exact⟨rfl,.inl ⟨rfl,rfl⟩⟩
 ·exact⟨rfl,.inl ⟨rfl,rfl⟩⟩
 ·exact⟨rfl,.inr (.inr ⟨_,_,rfl,rfl⟩)⟩
 ·exact⟨rfl,.inr (.inr ⟨_,_,rfl,rfl⟩)⟩
 ·cases h
theorem gk.symm {k:IK}{t:cW}{s s2:Ab}(h:gk k t s s2):gk k t s2 s where
 e i hi:=(h.e i hi).symm
 lk i hi:=(h.lk i hi).symm
 b j hj:=(h.b j hj).symm
 m e:=(h.m e).symm
 j j e:=(h.j j e).symm
 w e:=(h.w e).symm
 h q e:=⟨(h.h q e).1.symm,fun id off c hs=>((h.h q e).2 id off c ((h.h q e).1.trans hs)).symm⟩
theorem kj.symm {o:dh}{s s2:Ab}(h:kj o s s2):kj o s2 s:=⟨h.k.symm,fun j w e=>(h.g j w e).symm⟩
theorem kj.So {o:dh}{s:Ab}:kj o s s:=⟨gk.So,fun _ _ _=>rfl⟩
theorem kA.qt {o:dh}{s:Ab}{D:Diff}(w:kA o s D) {d:Nat}{v:IV}{c:cV}{l:Option Loc}(h:D.dst=some (d,v,c,l)):o.dst=some d:=by rw[←w.dst,h];rfl
theorem kA.OZ {o:dh}{s0 s:Ab}{D:Diff}(w:kA o s0 D) (hw:o.k.nS o.tag=false) {i:Nat}(hi:i∉o.wr):(D.app s).e i=s.e i:=by
 have hdr:D.dr i=false:=by
  cases hd:D.dr i with
  |false=>rfl
  |true =>
   rcases w.dr i hd with q | q
   ·exact absurd (List.mem_append_right _ q) hi
   ·rw[hw] at q;cases q
 simp only[Diff.app,hdr]
 cases hd:D.dst with
 |none=>rfl
 |some p =>obtain⟨d,v,c,l⟩:=p;have hne:d≠i:=fun e=>hi (List.mem_append_left _ (by rw[w.qt hd,e];exact List.mem_singleton.2 rfl));simp[hne]
theorem pV {a b:dh}{s0 s:Ab}{D:Diff}(hl:a.k.ly=true∨b.k.ly=true) (hh:G9 a b) (hwa:a.k.nS a.tag=false) (hwb:b.k.nS b.tag=false) (w:kA b s0 D)
  (he:∀h,Arg.t h∈b.k.fk→s0.e h=s.e h) (hm:D.m≠none→s0.m=s.m):kj a (D.app s) s:=by
 have hrd:∀i∈a.reads,i∉b.wr:=fun i hi hw=>hh.rd i hw hi;have rde:∀i∈a.reads,(D.app s).e i=s.e i:=fun i hi=>w.OZ hwb (hrd i hi);refine⟨{ e:=fun i hi=>rde i (List.mem_append_left _ hi),lk:=fun i hi=>?_,b:=fun j hj=>?_,m:=fun hmem=>?_,j:=fun j hj=>?_,w:=fun q=>(by rw[hwa] at q;cases q),h:=fun h ht=>?_ },fun j w' hg=>?_⟩
 ·
  have hi':i∈a.k.rd:=by
   revert hi
   cases a.k<;>intro hi<;>first | (simp[IK.UA] at hi;done) | skip
   ·rename_i x;cases x<;>simp[IK.UA] at hi;subst hi;simp[IK.rd,Arg.sl]
   ·rename_i x y;cases x<;>simp[IK.UA] at hi;subst hi;simp[IK.rd,Arg.sl]
  have hnl:a.k.ly=false:=by
   revert hi
   cases a.k<;>intro hi<;>first | rfl | (simp[IK.UA] at hi)
  have hbl:b.k.ly=true:=by
   rcases hl with q | q
   ·rw[hnl] at q;cases q
   ·exact q
  have hni:i∉b.wr:=hrd i (List.mem_append_left _ hi');have hkey:∀l,s.k i=some l→a.k.NV a.tag l=true→D.kp i l=true:=by
   intro l hs hf
   cases hkp:D.kp i l with
   |true=>rfl
   |false =>
    exfalso;have hslot:∀j∈b.wr,l ≠ .slot j:=by
     intro j hj e;subst e;have:a.tag=.slot j:=by
      revert hf hwa
      cases a.k<;>intro hwa hf<;>first | (simp[IK.NV] at hf;done) | skip
      cases ht:a.tag<;>rw[ht] at hf hwa<;>simp[IK.NV,cW.gC,IK.nS] at hf hwa
      rw[hf]
     refine hh.rd j hj ?_;unfold dh.reads;rw[this];exact List.mem_append_right _ (List.mem_append_left _ (List.mem_singleton.2 rfl))
    rcases w.kp i l hkp with ⟨d,hd,q | q⟩ | q | ⟨j,hj,q⟩ | q | q
    ·subst q;exact hni (List.mem_append_left _ (by rw[hd];exact List.mem_singleton.2 rfl))
    ·exact hslot d (List.mem_append_left _ (by rw[hd];exact List.mem_singleton.2 rfl)) q
    ·exact hni (List.mem_append_right _ q)
    ·exact hslot j (List.mem_append_right _ hj) q
    ·rw[(w9 q).1] at hbl;cases hbl
    ·rw[hwb] at q;cases q
  have hk:(D.app s).k i=(s.k i).filter (D.kp i):=by
   simp only[Diff.app]
   cases hd:D.dst with
   |none=>rfl
   |some p =>obtain⟨d,v,c,l⟩:=p;have hne:d≠i:=fun e=>hni (List.mem_append_left _ (by rw[w.qt hd,e];exact List.mem_singleton.2 rfl));simp[hne]
  rw[hk]
  cases hs:s.k i with
  |none=>rfl
  |some l =>
   cases hf:a.k.NV a.tag l with
   |true=>simp[Option.filter,hkey l hs hf]
   |false=>cases hkp:D.kp i l<;>simp[Option.filter,hf,hkp]
 ·simp only[Diff.app]
  cases hb:D.bs with
  |none=>rfl
  |some p =>
   obtain⟨j',x⟩:=p;have hne:j'≠j:=by
    rintro rfl;obtain⟨q1,q2⟩:=w.bs j' x hb;rcases hh.bx with q | q
    ·obtain⟨_,_,_,_,e⟩:=tP q;exact q2 _ _ _ _ e
    ·revert q hj q1
     cases a.k.bx a.tag<;>cases b.k.bx b.tag<;>intro hj q1 q
     ·simp[fB] at q
     ·rename_i l
      cases l with
      |nil=>exact absurd (q1 _ rfl) (by simp)
      |cons _ _=>simp[fB] at q
     ·rename_i l
      cases l with
      |nil=>exact absurd (hj _ rfl) (by simp)
      |cons _ _=>simp[fB] at q
     ·rename_i l l';simp only[fB,List.all_eq_true,List.contains_eq_mem,Bool.not_eq_true',decide_eq_false_iff_not] at q;exact q j' (hj _ rfl) (q1 _ rfl)
   simp[hne]
 ·simp only[Diff.app]
  cases hd:D.m with
  |none=>rfl
  |some m' =>
   obtain⟨q1,q2⟩:=w.m (by rw[hd];simp);rcases hh.mem with q | q | ⟨q,-⟩
   ·rw[q1] at q;cases q
   ·rw[q2] at q;cases q
   ·rw[hmem] at q;cases q
 ·refine rde j ?_;unfold dh.reads;rw[hj];exact List.mem_append_right _ (List.mem_append_left _ (List.mem_singleton.2 rfl))
 ·have hr:h∈a.reads:=by unfold dh.reads;rw[ht];exact List.mem_append_right _ (List.mem_append_left _ (List.mem_singleton.2 rfl))
  refine⟨rde h hr,fun id off c hs=>?_⟩;rw[rde h hr] at hs;simp only[Diff.app]
  cases hd:D.m with
  |none=>rfl
  |some m' =>
   obtain⟨q1,q2⟩:=w.m (by rw[hd];simp);rcases hh.mem with q | q | ⟨-,q⟩
   ·rw[q1] at q;cases q
   ·rw[q2] at q;cases q
   ·obtain⟨k1,k2⟩:=q h ht;have:=w.cd m' hd k1 h id off c k2 (by rw[he h k2];exact hs);rw[hm (by rw[hd];simp)] at this;simpa using this
 ·refine rde j ?_;unfold dh.reads;rw[hg];exact List.mem_append_right _ (List.mem_append_right _ (List.mem_singleton.2 rfl))
theorem xh {a b:dh}{sa sb:Ab}{A D:Diff}(hab:G9 a b) (hba:G9 b a) (hwb:b.k.nS b.tag=false) (wa:kA a sa A) (wb:kA b sb D)
  (he:∀h,a.tag=.cd h→sa.e h=sb.e h) {d:Nat}{v:IV}{c:cV}{l:Loc}(hA:A.dst=some (d,v,c,some l)):D.kp d l=true:=by
 have had:=wa.qt hA
 cases hkp:D.kp d l with
 |true=>rfl
 |false =>
  exfalso;have hnw:d∉b.wr:=hba.dst d had;have hslot:∀j∈b.wr,l ≠ .slot j:=by
   intro j hj e;rcases wa.V0 d v c l hA with ⟨j',q1,q2⟩ | ⟨q,-⟩ | ⟨_,_,_,_,_,q,_⟩ | ⟨_,_,_,_,_,q,_⟩
   ·rw[e] at q2;cases q2;exact hab.rd j hj (List.mem_append_left _ (by rw[q1];exact List.mem_singleton.2 rfl))
   ·rw[e] at q;cases q
   ·rw[e] at q;cases q
   ·rw[e] at q;cases q
  rcases wb.kp d l hkp with ⟨d',hd',q | q⟩ | q | ⟨j,hj,q⟩ | q | q
  ·subst q;exact hnw (List.mem_append_left _ (by rw[hd'];exact List.mem_singleton.2 rfl))
  ·exact hslot d' (List.mem_append_left _ (by rw[hd'];exact List.mem_singleton.2 rfl)) q
  ·exact hnw (List.mem_append_right _ q)
  ·exact hslot j (List.mem_append_right _ hj) q
  ·obtain⟨k0,⟨rfl,k2⟩ | ⟨k',off,rfl,k2,k3⟩ | ⟨id,off,rfl,k2⟩⟩:=w9 q
   ·rcases wa.V0 d v c _ hA with ⟨_,_,q2⟩ | ⟨_,q⟩ | ⟨_,_,_,_,_,q,_⟩ | ⟨_,_,_,_,_,q,_⟩
    ·cases q2
    ·have hm:a.k.marks=true:=by rcases q with ⟨x,q⟩ | ⟨_,_,_,_,q⟩<;>rw[q]<;>rfl
     rw[hab.marks hm] at k2;cases k2
    ·cases q
    ·cases q
   ·rcases wa.V0 d v c _ hA with ⟨_,_,q2⟩ | ⟨q,_⟩ | ⟨n,x,k1,off1,q1,q2,q3⟩ | ⟨_,_,_,_,_,q,_⟩
    ·cases q2
    ·cases q
    ·cases q2
     rcases hab.bx with q | q
     ·rw[k3] at q;cases q
     ·revert q q3
      rcases k2 with k2 | k2<;>rw[k2]<;>cases a.k.bx a.tag<;>intro q3 q
      ·simp[fB] at q
      ·rename_i bl
       cases bl with
       |nil=>exact absurd (q3 _ rfl) (by simp)
       |cons _ _=>simp[fB] at q
      ·simp[fB] at q
      ·rename_i bl;simp only[fB,List.all_eq_true,List.contains_eq_mem,Bool.not_eq_true',decide_eq_false_iff_not] at q;exact q k' (q3 _ rfl) (List.mem_singleton.2 rfl)
    ·cases q
   ·rcases wa.V0 d v c _ hA with ⟨_,_,q2⟩ | ⟨q,_⟩ | ⟨_,_,_,_,_,q,_⟩ | ⟨n,x,id1,off1,q1,q2,q3⟩
    ·cases q2
    ·cases q
    ·cases q
    ·cases q2
     rcases hab.mem with q | q | ⟨h1,h2⟩
     ·rw[k0] at q;cases q
     ·rw[k2] at q;cases q
     ·rcases q3 with q3 | ⟨h,x',c',ht,hs⟩
      ·rw[h1] at q3;cases q3
      ·obtain⟨z1,z2⟩:=h2 h ht;rw[he h ht] at hs;rcases wb.Hx z1 h id x' c' z2 hs d off with z | z
       ·rw[hkp] at z;cases z
       ·exact hnw (List.mem_append_left _ (by rw[z];exact List.mem_singleton.2 rfl))
  ·rw[hwb] at q;cases q
theorem I9 {D1 D2:Diff}{s:Ab}(hd:∀d1 v1 c1 l1 d2 v2 c2 l2,D1.dst=some (d1,v1,c1,l1)→D2.dst=some (d2,v2,c2,l2)→d1≠d2)
  (h12:∀d v c l,D1.dst=some (d,v,c,l)→D2.dr d=false∧∀l',l=some l'→D2.kp d l'=true)
  (h21:∀d v c l,D2.dst=some (d,v,c,l)→D1.dr d=false∧∀l',l=some l'→D1.kp d l'=true)
  (hb:∀j x j' x',D1.bs=some (j,x)→D2.bs=some (j',x')→j≠j') (hm:D1.m=none∨D2.m=none):D1.app (D2.app s)=D2.app (D1.app s):=by
 have flt:∀{l:Option Loc}{p:Loc→Bool},(∀l',l=some l'→p l'=true)→l.filter p=l:=by
  intro l p h
  cases l with
  |none=>rfl
  |some l'=>simp[Option.filter,h l' rfl]
 simp only[Diff.app,Ab.mk.injEq];refine⟨?_,?_,?_,?_⟩
 ·funext i
  cases e1:D1.dst with
  |none =>
   cases e2:D2.dst with
   |none=>cases D1.dr i<;>cases D2.dr i<;>simp<;>cases s.e i<;>rfl
   |some p2 =>
    obtain⟨d2,v2,c2,l2⟩:=p2;obtain⟨q,-⟩:=h21 _ _ _ _ e2;by_cases h:d2=i
    ·subst h;simp[q]
    ·cases D1.dr i<;>cases D2.dr i<;>simp[h]<;>cases s.e i<;>rfl
  |some p1 =>
   obtain⟨d1,v1,c1,l1⟩:=p1;obtain⟨q,-⟩:=h12 _ _ _ _ e1
   cases e2:D2.dst with
   |none =>
    by_cases h:d1=i
    ·subst h;simp[q]
    ·cases D1.dr i<;>cases D2.dr i<;>simp[h]<;>cases s.e i<;>rfl
   |some p2 =>
    obtain⟨d2,v2,c2,l2⟩:=p2;obtain⟨q2,-⟩:=h21 _ _ _ _ e2;have hne:=hd _ _ _ _ _ _ _ _ e1 e2;by_cases h:d1=i
    ·subst h;simp[q,Ne.symm hne]
    ·by_cases h2:d2=i
     ·subst h2;simp[q2,h]
     ·cases D1.dr i<;>cases D2.dr i<;>simp[h,h2]<;>cases s.e i<;>rfl
 ·have ff:∀i (o:Option Loc),(o.filter (D2.kp i)).filter (D1.kp i)=(o.filter (D1.kp i)).filter (D2.kp i):=by intro i o;rw[filter_filter,filter_filter];exact filter_congr _ _ _ fun x _=>Bool.and_comm _ _
  funext i
  cases e1:D1.dst with
  |none =>
   cases e2:D2.dst with
   |none=>exact ff i _
   |some p2 =>
    obtain⟨d2,v2,c2,l2⟩:=p2;obtain⟨-,q⟩:=h21 _ _ _ _ e2;by_cases h:d2=i
    ·subst h;simp[flt q]
    ·simp[h,ff]
  |some p1 =>
   obtain⟨d1,v1,c1,l1⟩:=p1;obtain⟨-,q⟩:=h12 _ _ _ _ e1
   cases e2:D2.dst with
   |none =>
    by_cases h:d1=i
    ·subst h;simp[flt q]
    ·simp[h,ff]
   |some p2 =>
    obtain⟨d2,v2,c2,l2⟩:=p2;obtain⟨-,q2⟩:=h21 _ _ _ _ e2;have hne:=hd _ _ _ _ _ _ _ _ e1 e2;by_cases h:d1=i
    ·subst h;simp[flt q,Ne.symm hne]
    ·by_cases h2:d2=i
     ·subst h2;simp[flt q2,h]
     ·simp[h,h2,ff]
 ·funext i
  cases e1:D1.bs with
  |none=>rfl
  |some p1 =>
   obtain⟨j1,x1⟩:=p1
   cases e2:D2.bs with
   |none=>rfl
   |some p2 =>
    obtain⟨j2,x2⟩:=p2;have hne:=hb _ _ _ _ e1 e2;by_cases h:j1=i
    ·subst h;simp[Ne.symm hne]
    ·by_cases h2:j2=i<;>simp[h,h2]
 ·rcases hm with q | q<;>rw[q]<;>simp
theorem En {x i:dh}(h:indep x i=true):(x.k.ly=true∨i.k.ly=true)∧G9 x i∧G9 i x∧x.k.nS x.tag=false∧i.k.nS i.tag=false∧∀h,x.tag=.cd h→h∉x.wr:=by unfold indep at h;simp only[Bool.and_eq_true,Bool.or_eq_true,Bool.not_eq_true'] at h;obtain⟨⟨⟨⟨⟨h1,h2⟩,h3⟩,h4⟩,h5⟩,h6⟩:=h;refine⟨h1,zf h2,zf h3,h4,h5,fun q ht=>?_⟩;rw[ht] at h6;simpa using h6
theorem comm (hk:dK call) {x i:dh}(hI:indep x i=true) {st s1 s2:St}(hu:Uq st.lk) (h1:x.run call st=some s1) (h2:i.run call s1=some s2) :
  ∃t1 t2,i.run call st=some t1∧Uq t1.lk∧x.run call t1=some t2∧Uq t2.lk∧Uq s2.lk∧t2.ab=s2.ab:=by
 obtain⟨hl,hxi,hix,hwx,hwi,hown⟩:=En hI;obtain⟨Dx,wx,ax,ux,dx⟩:=WI hk x hu h1;obtain⟨Di,wi,ai,ui,di⟩:=WI hk i ux h2;have hmx:Dx.m=none∨Di.m=none:=by
  rcases hl with q | q
  ·left;cases hd:Dx.m with
   |none=>rfl
   |some m'=>have:=(wx.m (by rw[hd];simp)).1;rw[q] at this;cases this
  ·right;cases hd:Di.m with
   |none=>rfl
   |some m'=>have:=(wi.m (by rw[hd];simp)).1;rw[q] at this;cases this
 have A1:kj i s1.ab st.ab:=by rw[ax];exact pV hl.symm hix hwi hwx wx (fun _ _=>rfl) (fun _=>rfl)
 obtain⟨t1,r1,a1,u1⟩:=di st hu A1;have hide_rd:∀h,Arg.t h∈i.k.fk→h∈i.reads:=by
  intro h hh;refine List.mem_append_left _ ?_;have sl:∀{l:List Arg},Arg.t h∈l→h∈ju l:=by
   intro l
   induction l with
   |nil=>intro q;cases q
   |cons a l ih =>
    intro q;rcases List.mem_cons.1 q with q | q
    ·subst q;exact List.mem_append_left _ (List.mem_singleton.2 rfl)
    ·exact List.mem_append_right _ (ih q)
  revert hh
  cases i.k<;>intro hh<;>first | (simp[IK.fk] at hh;done) | skip
  ·exact List.mem_append_right _ (sl hh)
  ·exact List.mem_append_right _ (List.mem_append_right _ (sl hh))
 have he1:∀h,h∉x.wr→s1.ab.e h=st.ab.e h:=fun h hh=>by rw[ax];exact wx.OZ hwx hh
 have A2:kj x t1.ab st.ab:=by
  rw[a1];refine pV (s0:=s1.ab) hl hxi hwx hwi wi (fun h hh=>he1 h fun q=>hix.rd h q (hide_rd h hh)) (fun hm=>?_);rcases hmx with q | q
  ·rw[ax];simp[Diff.app,q]
  ·exact absurd q hm
 obtain⟨t2,r2,a2,u2⟩:=dx t1 u1 A2.symm;refine⟨t1,t2,r1,u1,r2,u2,ui,?_⟩;rw[a2,a1,ai,ax];refine I9 (fun d1 v1 c1 l1 d2 v2 c2 l2 e1 e2 e=>?_) (fun d v c l e1=>⟨?_,fun l' q=>?_⟩) (fun d v c l e1=>⟨?_,fun l' q=>?_⟩) (fun j y j' y' e1 e2 e=>?_) hmx
 ·subst e;exact hxi.dst d1 (wi.qt e2) (List.mem_append_left _ (by rw[wx.qt e1];exact List.mem_singleton.2 rfl))
 ·cases hd:Di.dr d with
  |false=>rfl
  |true =>
   rcases wi.dr d hd with q | q
   ·exact absurd (List.mem_append_right _ q) (hix.dst d (wx.qt e1))
   ·rw[hwi] at q;cases q
 ·subst q;refine xh hxi hix hwi wx wi (fun h ht=>?_) e1;exact (he1 h (hown h ht)).symm
 ·cases hd:Dx.dr d with
  |false=>rfl
  |true =>
   rcases wx.dr d hd with q | q
   ·exact absurd (List.mem_append_right _ q) (hxi.dst d (wi.qt e1))
   ·rw[hwx] at q;cases q
 ·subst q;refine xh hix hxi hwx wi wx (fun h ht=>?_) e1;refine he1 h fun q=>?_;exact hix.rd h q (by unfold dh.reads;rw[ht];exact List.mem_append_right _ (List.mem_append_left _ (List.mem_singleton.2 rfl)))
 ·subst e;obtain⟨p1,p2⟩:=wx.bs _ _ e1;obtain⟨p3,p4⟩:=wi.bs _ _ e2;rcases hxi.bx with q | q
  ·obtain⟨_,_,_,_,e⟩:=tP q;exact p4 _ _ _ _ e
  ·revert q p1 p3
   cases x.k.bx x.tag<;>cases i.k.bx i.tag<;>intro p1 p3 q
   ·simp[fB] at q
   ·rename_i l
    cases l with
    |nil=>exact absurd (p3 _ rfl) (by simp)
    |cons _ _=>simp[fB] at q
   ·rename_i l
    cases l with
    |nil=>exact absurd (p1 _ rfl) (by simp)
    |cons _ _=>simp[fB] at q
   ·rename_i l l';simp only[fB,List.all_eq_true,List.contains_eq_mem,Bool.not_eq_true',decide_eq_false_iff_not] at q;exact q j (p1 _ rfl) (p3 _ rfl)
theorem tq (hk:dK call) {o:dh}{st st2 s1:St}(hu:Uq st.lk) (hu2:Uq st2.lk) (he:st2.ab=st.ab) (h:o.run call st=some s1):∃s2,o.run call st2=some s2∧s2.ab=s1.ab∧Uq s1.lk∧Uq s2.lk:=by obtain⟨D,w,a,u,d⟩:=WI hk o hu h;obtain⟨s2,r,a2,u2⟩:=d st2 hu2 (by rw[he];exact kj.So);exact⟨s2,r,by rw[a2,a,he],u,u2⟩
end Go.Idl
namespace Go.Idl
open Classical
variable {X:Ctx}{N:Nat}{G:Gh}{st:St}{a:Act}{w:World}{call:bW}
def lQ (e:Edge):Bool:=Region.binds .any e
def CM (pre:List Nat) (o:Oper):Nat:=o.after.toList.foldl (fun acc e=>if lQ e then acc ||| ((1 <<< e.on) ||| pre.getD e.on 0) else acc) 0
def Gs (pre:List Nat):Nat→List Oper→Bool
 |_,[]=>true
 |i,o::r=>(o.after.toList.all fun e=>!lQ e||Nat.blt e.on i)&&((pre.getD i 0 ||| CM pre o)==CM pre o)&&Gs pre (i+1) r
def rl (pi:Nat) (i:dh):Nat→List dh→Bool
 |_,[]=>true
 |x,o::r=>(pi.testBit x||indep o i)&&rl pi i (x+1) r
def ri (pre:List Nat) (is:List dh):Nat→List dh→Bool
 |_,[]=>true
 |i,o::r=>rl (pre.getD i 0) o 0 (is.take i)&&ri pre is (i+1) r
def wD (ops:Array Oper) (is:List dh) (pre:List Nat):Bool:=Gs pre 0 ops.toList&&ri pre is 0 is
theorem wN (pre:List Nat):∀(l:List Edge) (acc x:Nat),(l.foldl (fun acc e=>if lQ e then acc ||| ((1 <<< e.on) ||| pre.getD e.on 0) else acc) acc).testBit x=true →
  acc.testBit x=true∨∃e∈l,lQ e=true∧(e.on=x∨(pre.getD e.on 0).testBit x=true)
 |[],acc,x,h=>.inl h
 |e::l,acc,x,h=>by
  simp only[List.foldl_cons] at h;rcases wN pre l _ x h with q | ⟨e',h1,h2⟩
  ·split at q
   ·rename_i hb;simp only[Nat.testBit_or,Bool.or_eq_true] at q;rcases q with q | q | q
    ·exact .inl q
    ·refine .inr ⟨e,List.mem_cons_self,hb,.inl ?_⟩;rw[Nat.one_shiftLeft,Nat.testBit_two_pow] at q;simpa using q
    ·exact .inr ⟨e,List.mem_cons_self,hb,.inr q⟩
   ·exact .inl q
  ·exact .inr ⟨e',List.mem_cons_of_mem _ h1,h2⟩
theorem EG {pre:List Nat}{o:Oper}{x:Nat}(h:(CM pre o).testBit x=true):∃e∈o.after,lQ e=true∧(e.on=x∨(pre.getD e.on 0).testBit x=true):=by
 rcases wN pre _ _ _ h with q | ⟨e,h1,h2⟩
 ·simp at q
 ·exact⟨e,by simpa using h1,h2⟩
theorem tg {pre:List Nat}:∀(l:List Oper) (k:Nat),Gs pre k l=true→∀j o,l[j]?=some o→(∀e∈o.after,lQ e=true→e.on<k+j)∧(pre.getD (k+j) 0 ||| CM pre o)=CM pre o
 |[],_,_,j,o,h=>by simp at h
 |q::l,k,h,j,o,ho=>by
  simp only[Gs,Bool.and_eq_true,beq_iff_eq] at h;obtain⟨⟨h1,h2⟩,h3⟩:=h
  cases j with
  |zero =>simp only[List.getElem?_cons_zero,Option.some.injEq] at ho;subst ho;refine⟨fun e he hb=>?_,h2⟩;rw[List.all_eq_true] at h1;have:=h1 e (by simpa using he);rw[hb] at this;simpa[Nat.blt_eq] using this
  |succ j =>have:=tg l (k+1) h3 j o (by simpa using ho);rw[show k+1+j=k+(j+1) by omega] at this;exact this
theorem tE {pi:Nat}{i:dh}:∀(l:List dh) (k:Nat),rl pi i k l=true→∀j o,l[j]?=some o→pi.testBit (k+j)=true∨indep o i=true
 |[],_,_,j,o,h=>by simp at h
 |q::l,k,h,j,o,ho=>by
  simp only[rl,Bool.and_eq_true,Bool.or_eq_true] at h
  cases j with
  |zero =>simp only[List.getElem?_cons_zero,Option.some.injEq] at ho;subst ho;exact h.1
  |succ j =>have:=tE l (k+1) h.2 j o (by simpa using ho);rw[show k+1+j=k+(j+1) by omega] at this;exact this
theorem rj {pre:List Nat}{is:List dh}:∀(l:List dh) (k:Nat),ri pre is k l=true→∀j o,l[j]?=some o→rl (pre.getD (k+j) 0) o 0 (is.take (k+j))=true
 |[],_,_,j,o,h=>by simp at h
 |q::l,k,h,j,o,ho=>by
  simp only[ri,Bool.and_eq_true] at h
  cases j with
  |zero =>simp only[List.getElem?_cons_zero,Option.some.injEq] at ho;subst ho;exact h.1
  |succ j =>have:=rj l (k+1) h.2 j o (by simpa using ho);rw[show k+1+j=k+(j+1) by omega] at this;exact this
structure Il (ops:Array Oper) (is:List dh) (pre:List Nat):Prop where
 lt:∀i o,ops[i]?=some o→∀e∈o.after,lQ e=true→e.on<i
 bits:∀i o x,ops[i]?=some o→(pre.getD i 0).testBit x=true→∃e∈o.after,lQ e=true∧(e.on=x∨(pre.getD e.on 0).testBit x=true)
 apart:∀i x io xo,x<i→is[i]?=some io→is[x]?=some xo→(pre.getD i 0).testBit x=true∨indep xo io=true
theorem Eb {ops:Array Oper}{is:List dh}{pre:List Nat}(h:wD ops is pre=true):Il ops is pre:=by
 simp only[wD,Bool.and_eq_true] at h;obtain⟨h1,h2⟩:=h;refine⟨fun i o ho=>?_,fun i o x ho hx=>?_,fun i x io xo hlt hi hx=>?_⟩
 ·have:=(tg _ _ h1 i o (by simpa using ho)).1;simpa using this
 ·have:=(tg _ _ h1 i o (by simpa using ho)).2;rw[Nat.zero_add] at this;refine EG ?_;rw[←this,Nat.testBit_or,hx,Bool.true_or]
 ·have:=rj _ _ h2 i io hi;rw[Nat.zero_add] at this;have:=tE _ _ this x xo (by rw[List.getElem?_take];simp[hlt,hx]);simpa using this
theorem SR.ab (h:SR X N G st a w) {st2:St}(he:st2.ab=st.ab) (hu2:Uq st2.lk):SR X N G st2 a w:=by
 have e1:look st2.env=look st.env:=congrArg Ab.e he;have e2:aU st2.lk=aU st.lk:=congrArg Ab.k he;have e3:aQ st2.lb=aQ st.lb:=congrArg Ab.b he;have e4:st2.m=st.m:=congrArg Ab.m he;refine { size:=h.size,env:=?_,own:=?_,lk:=?_,lb:=?_,dE:=?_,dO:=?_,mr:=?_,wf:=h.wf }
 ·intro i v c q;rw[e1] at q;exact h.env i v c q
 ·intro i v sz q;rw[e1] at q;exact h.own i v sz q
 ·intro i l q;have:=hu2.aU q;rw[e2] at this;exact h.lk i l (iS this)
 ·intro k q;rw[e3] at q ⊢;exact h.lb k q
 ·intro k cs cp off sz q;rw[e3] at q;exact h.dE k cs cp off sz q
 ·intro k b q;rw[e3];exact h.dO k b q
 ·rw[e4];exact h.mr
theorem lG (hk:dK call):∀(l:List dh) {st st2 s1:St},Uq st.lk→Uq st2.lk→st2.ab=st.ab→bm call l st=some s1→∃s2,bm call l st2=some s2∧s2.ab=s1.ab∧Uq s1.lk∧Uq s2.lk
 |[],st,st2,s1,hu,hu2,he,h=>by
  simp only[bm,Option.some.injEq] at h;subst h;exact⟨st2,rfl,he,hu,hu2⟩
 |o::l,st,st2,s1,hu,hu2,he,h=>by
  simp only[bm] at h;split at h
  ·rename_i t1 e1;obtain⟨t2,r2,a2,u1,u2⟩:=tq hk hu hu2 he e1;obtain⟨s2,r3,a3,u3⟩:=lG hk l u1 u2 a2 h;exact⟨s2,by simp only[bm,r2];exact r3,a3,u3⟩
  ·cases h
theorem Dv (hk:dK call) {i:dh}:∀(A B:List dh) {st sf:St},(∀x∈A,indep x i=true)→Uq st.lk→bm call (A++i::B) st=some sf →
  ∃t sf',i.run call st=some t∧Uq t.lk∧bm call (A++B) t=some sf'∧sf'.ab=sf.ab∧Uq sf'.lk
 |[],B,st,sf,_,hu,h=>by
  simp only[List.nil_append,bm] at h;split at h
  ·rename_i t e;obtain⟨_,_,_,u1,_⟩:=tq hk hu hu rfl e;obtain⟨_,_,_,u2,_⟩:=lG hk B u1 u1 rfl h;exact⟨t,sf,e,u1,h,rfl,u2⟩
  ·cases h
 |x::A,B,st,sf,hA,hu,h=>by
  simp only[List.cons_append,bm] at h;split at h
  ·rename_i s1 e1;obtain⟨_,_,_,u1,_⟩:=tq hk hu hu rfl e1;obtain⟨t,sf',r1,ut,r2,a2,u2⟩:=Dv hk A B (fun y hy=>hA y (List.mem_cons_of_mem _ hy)) u1 h;obtain⟨t1,t2,q1,q2,q3,q4,_,q5⟩:=comm hk (hA x List.mem_cons_self) hu e1 r1;obtain⟨sf2,z1,z2,z3,z4⟩:=lG hk (A++B) ut q4 q5 r2;refine⟨t1,sf2,q1,q2,?_,z2.trans a2,z4⟩;simp only[List.cons_append,bm,q3];exact z1
  ·cases h
theorem CS {P:Program}{rows:Nat→Option (List IV)}{N:Nat}{ops:Array Oper}:∀{os:List Oper}{is:List dh},uh P rows N ops os is→∀(j:Nat) o,os[j]?=some o→∃io,is[j]?=some io∧VY P rows N ops o io
 |_,_,.nil,j,o,h=>by simp at h
 |_,_,.cons h hs,j,o,ho=>by
  cases j with
  |zero=>simp only[List.getElem?_cons_zero,Option.some.injEq] at ho;subst ho;exact⟨_,by simp,h⟩
  |succ j=>obtain⟨io,h1,h2⟩:=CS hs j o (by simpa using ho);exact⟨io,by simpa using h1,h2⟩
def rest (n:Nat) (listed:Array Bool):List Nat:=(List.range n).filter fun i=>!listed.getD i true
def opsOf (is:List dh) (T:List Nat):List dh:=T.filterMap fun i=>is[i]?
theorem D9 {ops:Array Oper}{is:List dh}{pre:List Nat}(hD:Il ops is pre) {listed:Array Bool}
  (hcl:∀j,listed.getD j false=true→∀o,ops[j]?=some o→∀e∈o.after,lQ e=true→listed.getD e.on false=true) :
  ∀(i:Nat) o,ops[i]?=some o→(∀e∈o.after,lQ e=true→listed.getD e.on false=true)→∀x,(pre.getD i 0).testBit x=true→listed.getD x false=true:=by
 intro i
 induction i using Nat.strongRecOn with
 |_ i ih =>
  intro o ho hl x hx;obtain⟨e,he,hb,q⟩:=hD.bits i o x ho hx;rcases q with q | q
  ·rw[←q];exact hl e he hb
  ·have hlt:=hD.lt i o ho e he hb;have hi:i<ops.size:=(Array.getElem?_eq_some_iff.1 ho).1;have hoe:ops[e.on]?=some ops[e.on]:=Array.getElem?_eq_getElem (by omega);exact ih e.on hlt _ hoe (hcl e.on (hl e he hb) _ hoe) x q
theorem Ma {n i:Nat}{listed:Array Bool}(hi:listed.getD i true=false):rest n (listed.setIfInBounds i true)=(rest n listed).filter fun j=>!(j==i):=by
 have hlt:i<listed.size:=by
  rcases Nat.lt_or_ge i listed.size with h | h
  ·exact h
  ·simp[Array.getD,Nat.not_lt.2 h] at hi
 unfold rest;rw[List.filter_filter];refine List.filter_congr fun j _=>?_;by_cases h:j=i
 ·subst h;simp[Array.getD,hlt]
 ·rw[getD_set_ne true (Ne.symm h)];simp[h]
theorem JH (hc:kV X call) (hk:dK call) {ro:Option Nat}{Q:Exit→Act→World→Prop}{ops:Array Oper}{is:List dh}{pre:List Nat}(hO:uh X.P X.rows N ops ops.toList is) (hD:Il ops is pre) :
  ∀(fuel:Nat) (listed:Array Bool) (G:Gh) (st:St) (a:Act) (w:World) (sf st':St),(rest ops.size listed).length≤fuel →
   (∀j,listed.getD j false=true→∀o,ops[j]?=some o→∀e∈o.after,lQ e=true→listed.getD e.on false=true) →
   listed.size=ops.size→SR X N G st a w→Uq st.lk→Uq st'.lk→bm call (opsOf is (rest ops.size listed)) st=some sf→st'.ab=sf.ab→yb X N G w a.defers st' (Q .normal) →
   wpAnyIn (Fr ro) 0 X.P .any ops Q fuel listed a w:=by
 intro fuel
 have none_left:∀(listed:Array Bool) (G:Gh) (st:St) (a:Act) (w:World) (sf st':St),listed.size=ops.size→SR X N G st a w→Uq st'.lk→bm call (opsOf is (rest ops.size listed)) st=some sf→st'.ab=sf.ab →
   yb X N G w a.defers st' (Q .normal)→Region.ready .any ops listed=[]→Q .normal a w:=by
  intro listed G st a w sf st' hsz h hu' hr he hQ hrd;have hnil:rest ops.size listed=[]:=by
   cases hT:rest ops.size listed with
   |nil=>rfl
   |cons i T =>
    exfalso;have hmem:i∈rest ops.size listed:=by rw[hT];exact List.mem_cons_self
    obtain⟨h1,h2⟩:=List.mem_filter.1 hmem;have hi:i<ops.size:=List.mem_range.1 h1;have hsort:(rest ops.size listed).Pairwise (· < ·):=(List.pairwise_lt_range).filter _;rw[hT] at hsort;have hleast:∀j,j<i→listed.getD j false=true:=by
     intro j hj
     cases hb:listed.getD j true with
     |false =>
      have:j∈rest ops.size listed:=List.mem_filter.2 ⟨List.mem_range.2 (by omega),by simp[hb]⟩;rw[hT] at this;rcases List.mem_cons.1 this with q | q
      ·omega
      ·have:=(List.pairwise_cons.1 hsort).1 j q;omega
     |true =>simp only[Array.getD] at hb ⊢;rw[dif_pos (by omega)] at hb ⊢;exact hb
    have:i∈Region.ready .any ops listed:=by rw[mem_ready];refine⟨by simpa using h2,ops[i],Array.getElem?_eq_getElem hi,fun e he hb=>hleast e.on ?_⟩;exact hD.lt i _ (Array.getElem?_eq_getElem hi) e he hb
    rw[hrd] at this
    cases this
  rw[hnil] at hr;simp only[opsOf,List.filterMap_nil,bm,Option.some.injEq] at hr;subst hr;exact hQ G a w (h.ab he hu') (Step.refl _ _) rfl
 induction fuel with
 |zero =>
  intro listed G st a w sf st' hlen hcl hsz h hu hu' hr he hQ;have hrd:Region.ready .any ops listed=[]:=by
   cases hrd:Region.ready .any ops listed with
   |nil=>rfl
   |cons i r =>
    exfalso;have hi:i∈Region.ready .any ops listed:=by rw[hrd];exact List.mem_cons_self
    rw[mem_ready] at hi;obtain⟨h1,o,ho,-⟩:=hi;have:i∈rest ops.size listed:=List.mem_filter.2 ⟨List.mem_range.2 (Array.getElem?_eq_some_iff.1 ho).1,by simp[h1]⟩;have hz:rest ops.size listed=[]:=List.eq_nil_of_length_eq_zero (by omega);rw[hz] at this
    cases this
  exact⟨hrd,none_left listed G st a w sf st' hsz h hu' hr he hQ hrd⟩
 |succ fuel ih =>
  intro listed G st a w sf st' hlen hcl hsz h hu hu' hr he hQ;refine⟨none_left listed G st a w sf st' hsz h hu' hr he hQ,fun i hi=>?_⟩;rw[mem_ready] at hi;obtain⟨h1,o,ho,hall⟩:=hi;have hi:i<ops.size:=(Array.getElem?_eq_some_iff.1 ho).1;have hmem:i∈rest ops.size listed:=List.mem_filter.2 ⟨List.mem_range.2 hi,by simp[h1]⟩;obtain⟨io,hio,hR⟩:=CS hO i o (by simpa using ho);have hsort:(rest ops.size listed).Pairwise (· < ·):=(List.pairwise_lt_range).filter _;obtain⟨A,B,hAB⟩:=List.append_of_mem hmem;rw[hAB] at hsort;obtain⟨hsA,hsB,hAB2⟩:=List.pairwise_append.1 hsort;have hAlt:∀x∈A,x<i:=fun x hx=>hAB2 x hx i List.mem_cons_self;have hBgt:∀x∈B,i<x:=fun x hx=>(List.pairwise_cons.1 hsB).1 x hx;have hrest:rest ops.size (listed.setIfInBounds i true)=A++B:=by
   rw[Ma h1,hAB,List.filter_append,List.filter_cons];simp only[beq_self_eq_true,Bool.not_true,Bool.false_eq_true,if_false];rw[List.filter_eq_self.2 (fun x hx=>by have:=hAlt x hx;simp;omega),List.filter_eq_self.2 (fun x hx=>by have:=hBgt x hx;simp;omega)]
  have hrun:bm call (opsOf is A++io::opsOf is B) st=some sf:=by rw[hAB] at hr;simpa only[opsOf,List.filterMap_append,List.filterMap_cons,hio] using hr
  have hap:∀x∈opsOf is A,indep x io=true:=by
   intro x hx;obtain⟨j,hj,hjx⟩:=List.mem_filterMap.1 hx;rcases hD.apart i j io x (hAlt j hj) hio hjx with q | q
   ·exfalso;have hl:=D9 hD hcl i o ho hall j q;have hj2:j∈rest ops.size listed:=by rw[hAB];exact List.mem_append_left _ hj
    have:=(List.mem_filter.1 hj2).2;simp only[Array.getD] at hl this;split at hl<;>simp_all
   ·exact q
  obtain⟨t,sf',r1,ut,r2,a2,u2⟩:=Dv hk _ _ hap hu hrun;have hset:(listed.setIfInBounds i true).size=ops.size:=by simp[hsz]
  refine wpOpIn_step ho fun K' hK'=>?_;refine CQ h hc hR r1 ?_;intro G1 a1 w1 h2 s1 d1;refine hK' a1 w1 (ih (listed.setIfInBounds i true) G1 t a1 w1 sf' st' ?_ ?_ hset h2 ut hu' ?_ (he.trans a2.symm) ?_)
  ·rw[hrest];rw[hAB] at hlen;simp only[List.length_append,List.length_cons] at hlen ⊢;omega
  ·intro j hj oj hoj e hee hb;by_cases hji:i=j
   ·subst hji;rw[ho] at hoj
    cases hoj
    exact getD_set_true (hall e hee hb)
   ·rw[getD_set_ne false hji] at hj;exact getD_set_true (hcl j hj oj hoj e hee hb)
  ·rw[hrest];simpa only[opsOf,List.filterMap_append] using r2
  ·rw[d1];exact hQ.step s1
theorem xx:∀(l p:List dh),(List.range' p.length l.length).filterMap (fun i=>(p++l)[i]?)=l
 |[],p=>by simp
 |x::l,p=>by
  have ih:=xx l (p++[x]);simp only[List.length_append,List.length_singleton,List.append_assoc,List.singleton_append] at ih;rw[List.length_cons,List.range'_succ,List.filterMap_cons];have:(p++x::l)[p.length]?=some x:=by simp
  rw[this];simp only[ih]
theorem HR {is:List dh}:opsOf is (List.range is.length)=is:=by have:=xx is [];simpa[opsOf,List.range_eq_range'] using this
theorem oL {P:Program}{rows:Nat→Option (List IV)}{N:Nat}{ops:Array Oper}:∀{os:List Oper}{is:List dh},uh P rows N ops os is→is.length=os.length
 |_,_,.nil=>rfl
 |_,_,.cons _ hs=>by simp[oL hs]
theorem SR.Ug (h:SR X N G st a w):SR X N G st a w.drew where
 size:=h.size
 env:=h.env
 own:=h.own
 lk i l q:=by
  have:=h.lk i l q
  cases l<;>exact this
 lb:=h.lb
 dE:=h.dE
 dO:=h.dO
 mr:=⟨h.mr.bx,h.mr.own,h.mr.kY,h.mr.cd⟩
 wf:=⟨h.wf.dB,h.wf.inj,h.wf.ja,h.wf.fB,h.wf.eY,h.wf.ew,h.wf.eU,h.wf.fL,h.wf.dR,h.wf.iD,h.wf.gj⟩
theorem Nt (hm:X.P.follows .mixedOrders=true) (hX:∀ops is pre,X.D ops is pre→wD ops is pre=true):vv X:=by
 intro call hc hk N ro Q id ops is pre G st a w st' hO hD h hu hr hQ;have hu:=E9 hu;refine wpIn_region_any hm ?_;have hrest:rest ops.size (Array.replicate ops.size false)=List.range is.length:=by rw[oL hO,Array.length_toList];unfold rest;refine List.filter_eq_self.2 fun i hi=>?_;simp[Array.getD,List.mem_range.1 hi]
 obtain⟨_,_,_,u1,_⟩:=lG hk is hu hu rfl hr;have h2:SR X N G st a w.drew:=h.Ug;have hlen:(rest ops.size (Array.replicate ops.size false)).length≤ops.size:=by rw[hrest,List.length_range,oL hO,Array.length_toList];exact Nat.le_refl _
 have hrun:bm call (opsOf is (rest ops.size (Array.replicate ops.size false))) st=some st':=by rw[hrest,HR];exact hr
 refine JH hc hk hO (Eb (hX _ _ _ hD)) ops.size _ G st a w.drew st' st' hlen (fun j hj=>?_) (by simp) h2 hu u1 hrun rfl (hQ.step (Step.refl G w).drew);exfalso;simp only[Array.getD] at hj;split at hj<;>simp at hj
end Go.Idl
