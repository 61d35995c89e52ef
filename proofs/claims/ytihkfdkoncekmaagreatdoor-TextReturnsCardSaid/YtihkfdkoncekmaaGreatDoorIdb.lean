/- This text proves that the operations of that interpreter are sound, each by itself; it has no conditions. -/
import Derived.Test.YtihkfdkoncekmaaGreatDoorIda
import Derived.Laws.IdiomCopy
import Derived.Laws.IdiomStrings
import Derived.Laws.MakeOwn
set_option linter.unusedSimpArgs false
set_option linter.unusedVariables false
namespace Go.Idl
open Classical
variable {X:Ctx}{N:Nat}{G:Gh}{st:St}{a:Act}{w:World}
theorem cX (b:Nat):∀(vs:List Value) (o:Nat) (w:World) (k:Nat),k≠b→(w.setCells b o vs).heap[k]?=w.heap[k]?
 |[],_,_,_,_=>rfl
 |v::r,o,w,k,h=>by
  rw[World.setCells,cX b r _ _ k h];exact heap_setCell_other w ⟨b,o,none⟩ k v h
theorem gr (b:Nat):∀(vs:List Value) (o:Nat) (w:World) (rc:List Value) (t:TypeId) (f:Nat×Nat),w.heap[b]?=some (.cells ⟨rc⟩ t f)→o+vs.length≤rc.length →
  (w.setCells b o vs).heap[b]?=some (.cells ⟨rc.take o++vs++rc.drop (o+vs.length)⟩ t f)
 |[],o,w,rc,t,f,h,_=>by simp[World.setCells,h]
 |v::r,o,w,rc,t,f,h,hl=>by
  have h1:(w.setCell ⟨b,o,none⟩ v).heap[b]?=some (.cells ⟨rc.set o v⟩ t f):=by simp only[World.setCell,Array.getElem?_modify,if_true,h,Option.map_some];simp
  simp only[List.length_cons] at hl;rw[World.setCells,gr b r (o+1) _ _ t f h1 (by simp;omega)];congr 3;have ho:o<rc.length:=by omega
  rw[List.take_set,List.take_succ_eq_append_getElem ho,List.drop_set,if_pos (by omega)];rw[List.set_append,if_neg (by simp;omega)];simp[Nat.min_eq_left (Nat.le_of_lt ho)];congr 1;omega
@[simp] theorem De (b:Nat):∀(vs:List Value) (o:Nat) (w:World),(w.setCells b o vs).os=w.os
 |[],_,_=>rfl
 |v::r,o,w=>by rw[World.setCells,De b r];rfl
@[simp] theorem yu (b:Nat):∀(vs:List Value) (o:Nat) (w:World),(w.setCells b o vs).tape=w.tape
 |[],_,_=>rfl
 |v::r,o,w=>by rw[World.setCells,yu b r];rfl
@[simp] theorem uz (b:Nat):∀(vs:List Value) (o:Nat) (w:World),(w.setCells b o vs).output=w.output
 |[],_,_=>rfl
 |v::r,o,w=>by rw[World.setCells,uz b r];rfl
@[simp] theorem xL (b:Nat):∀(vs:List Value) (o:Nat) (w:World),(w.setCells b o vs).drawn=w.drawn
 |[],_,_=>rfl
 |v::r,o,w=>by rw[World.setCells,xL b r];rfl
@[simp] theorem yt (b:Nat):∀(vs:List Value) (o:Nat) (w:World),(w.setCells b o vs).heap.size=w.heap.size
 |[],_,_=>rfl
 |v::r,o,w=>by rw[World.setCells,yt b r];simp
theorem cC {w:World}{b:Nat}{rc:List Value}{t:TypeId}{f:Nat×Nat}(h:w.heap[b]?=some (.cells ⟨rc⟩ t f)) (o:Nat):w.cell? ⟨b,o,none⟩=rc[o]?:=by simp[World.cell?,h]
theorem gV {w:World}{b:Nat}{rc:List Value}{t:TypeId}{f:Nat×Nat}(h:w.heap[b]?=some (.cells ⟨rc⟩ t f)) (o:Nat):w.frozen? ⟨b,o,none⟩=(decide (f.1≤o)&&decide (o<f.2)):=by simp[World.frozen?,h]
theorem CP {G:Gh}{v:IV}{r:Value}(h:VR G v r) {n:Nat}(hr:v.refs=some n):r.oneCell'=true:=by
 cases h<;>first | rfl | (simp[IV.refs,IV.plain] at hr)
theorem tZ {vs:List IV}{n:Nat}(h:aC vs=some n):∀v∈vs,∃k,v.refs=some k∧k≤n:=by
 induction vs generalizing n with
 |nil=>simp
 |cons v vs ih =>
  simp only[aC] at h;split at h
  ·rename_i x y e1 e2;simp only[Option.some.injEq] at h;subst h;intro u hu;rcases List.mem_cons.1 hu with rfl | hu
   ·exact⟨x,e1,Nat.le_max_left _ _⟩
   ·obtain⟨k,h1,h2⟩:=ih e2 u hu;exact⟨k,h1,Nat.le_trans h2 (Nat.le_max_right _ _)⟩
  ·cases h
theorem c9.one {vs:List IV}{rs:List Value}(h:c9 G vs rs) {n:Nat}(hr:aC vs=some n):∀r∈rs,r.oneCell'=true:=by
 intro r hm;obtain⟨i,hi,rfl⟩:=List.getElem_of_mem hm;have hi':i<vs.length:=by rw[←h.1];exact hi
 obtain⟨k,h1,_⟩:=tZ hr vs[i] (List.getElem_mem hi');exact CP (h.2 i hi' hi) h1
theorem Step.setCells {b o:Nat}{vs:List Value}(hb:G.p8 b):Step G w G (w.setCells b o vs) where
 os:=by simp
 tape:=by simp
 output:=by simp
 size:=by simp
 dB _ _ _ h:=h
 bx _ _ h:=h
 other k x h nb _:=by rw[cX b vs o w k (fun e=>nb (e▸hb))];exact h
 cells k c t f h nb:=⟨c,f,by rw[cX b vs o w k (fun e=>nb (e▸hb))];exact h,rfl,fun _ _=>rfl,.inl rfl⟩
 eW _ _ _ _ _ h:=.inl h
 fY _ _ _ _ h:=by simp[h]
 fh _ _ h:=h
 cd:=rfl
 gj:=rfl
 loop k L h:=⟨L,by
  by_cases e:k=b
  ·subst e;have hs:∀(vs:List Value) (o:Nat) (w:World),w.heap[k]?=some (.loop L)→(w.setCells k o vs).heap[k]?=some (.loop L):=by
    intro vs
    induction vs with
    |nil=>intro o w h;exact h
    |cons v r ih =>intro o w h;rw[World.setCells];refine ih _ _ ?_;simp only[World.setCell,Array.getElem?_modify,h,if_true,Option.map_some]
   exact hs vs o w h
  ·rw[cX b vs o w k e];exact h⟩
 gm _ _ h:=.inl h
theorem WF.setCells (h:WF X G w) {b o:Nat}{vs:List Value}(hb:G.boxed b):WF X G (w.setCells b o vs) where
 dB k i v e:=by
  have hk:k≠b:=fun q=>by subst q;rw[h.ew k i hb] at e;cases e
  rw[World.cell?_of_block (cX b vs o w k hk)];exact h.dB k i v e
 inj:=h.inj
 ja:=h.ja
 fB:=h.fB
 eY k hk:=by simpa using h.eY k hk
 ew:=h.ew
 eU:=h.eU
 fL:=h.fL
 dR k i l e:=by
  have hk:k≠b:=fun q=>by subst q;rw[h.eU k i hb] at e;cases e
  rw[World.cell?_of_block (cX b vs o w k hk),World.frozen?_of_block (cX b vs o w k hk)];exact h.dR k i l e
 iD:=h.iD
 gj:=by simpa using h.gj
def QR (G:Gh) (a:Act) (w:World):Loc→Value→Prop
 |.slot i,r=>a.tmps.getD i undef=r
 |.L k off,r=>∃b,G.lb k=some b∧w.cell? ⟨b,off,none⟩=some r
 |.B id off,r=>∃b,G.bx id=some b∧w.cell? ⟨b,off,none⟩=some r
 |.marked,_=>False
theorem p7 {e:Env}{i sz:Nat}(h:c8 e i=.own sz):∃v,look e i=some (v,.own sz):=by
 unfold c8 at h
 cases hl:look e i with
 |none=>rw[hl] at h;cases h
 |some p=>rw[hl] at h;obtain⟨v,c⟩:=p;simp only at h;subst h;exact⟨v,rfl⟩
theorem wO {cp:List cV}{off sz:Nat}(h:cp.getD off .any=.own sz):cp[off]?=some (.own sz):=by
 rw[List.getD_eq_getElem?_getD] at h
 cases hq:cp[off]? with
 |none=>rw[hq] at h;cases h
 |some c=>rw[hq] at h;simp at h;rw[h]
theorem SR.UJ (h:SR X N G st a w) {l:Loc}{sz:Nat}(hc:st.dn l=.own sz) {r:Value}(hr:QR G a w l r):gR G l sz r:=by
 cases l with
 |slot i =>obtain⟨v,hv⟩:=p7 hc;have:=h.own i v sz hv;rw[hr] at this;exact this
 |L k off =>
  obtain⟨b,hb,hw⟩:=hr;simp only[St.dn] at hc;split at hc
  ·rename_i cs cp e;exact h.dE k cs cp off sz e (wO hc) b r hb hw
  ·cases hc
 |B id off =>
  obtain⟨b,hb,hw⟩:=hr;simp only[St.dn] at hc;split at hc
  ·rename_i cs cp e;exact h.mr.own id cs cp off sz e (wO hc) b r hb hw
  ·cases hc
 |marked=>exact hr.elim
noncomputable def Gh.clear (G:Gh) (r:Value) (sz:Nat):Gh:={ G with ow:=fun b j=>if iE r sz b j then none else G.ow b j }
theorem gR.beyond {l:Loc}{sz:Nat}{r:Value}(h:gR G l sz r) {b j:Nat}(hb:iE r sz b j):G.ow b j=some l:=by obtain⟨o,sp,len,cap,e,h1,h2⟩:=hb;exact (h b o sp len cap e).2 j h1 h2
theorem gR.clear {l l':Loc}{sz sz':Nat}{r r':Value}(h:gR G l sz r) (h':gR G l' sz' r') (hne:l≠l'):gR (G.clear r sz) l' sz' r':=by
 intro b o sp len cap e;obtain⟨h1,h2⟩:=h' b o sp len cap e;refine⟨h1,fun j hj1 hj2=>?_⟩;have:=h2 j hj1 hj2;simp only[Gh.clear];rw[if_neg]
 ·exact this
 ·intro hb;have e:=h.beyond hb;rw[e] at this;exact hne (by simpa using this)
theorem WF.clear (h : WF X G w) (r : Value) (sz : Nat) : WF X (G.clear r sz) w where
  dB := h.dB
  inj := h.inj
  ja := h.ja
  fB := h.fB
  eY := h.eY
  ew := h.ew
  eU b o hb := by simp only [Gh.clear]; split; · rfl
                  · exact h.eU b o hb
  fL b o l e := by simp only [Gh.clear] at e; split at e; · cases e
                   · exact h.fL b o l e
  dR b o l e := by simp only [Gh.clear] at e; split at e; · cases e
                   · exact h.dR b o l e
  gj := h.gj
  iD g row hr := VR.mono (G := G) (G' := G.clear r sz) (fun _ _ _ h => h) (fun _ _ h => h) (h.iD g row hr)
theorem Step.clear (r : Value) (sz : Nat) : Step G w (G.clear r sz) w where
  os := rfl
  tape := rfl
  output := rfl
  size := Nat.le_refl _
  dB _ _ _ h := h
  bx _ _ h := h
  other _ _ h _ _ := h
  cells _ c _ f h _ := ⟨c, f, h, rfl, fun _ _ => rfl, .inl rfl⟩
  eW _ _ _ _ _ h := .inl h
  fY b o l _ h := by simp only [Gh.clear] at h; split at h; · cases h
                     · simp [h]
  fh _ _ h := h
  cd := rfl
  gj := rfl
  loop _ L h := ⟨L, h⟩
  gm _ _ h := .inl h
theorem gR.free {l:Loc}{sz:Nat}{r:Value}(hw:WF X G w) (h:gR G l sz r):Aa G w (G.clear r sz) w r sz where
 spot b o sp len cap e:=(h b o sp len cap e).1
 xm b j hb:=.inr (by rw[h.beyond hb];rfl)
 ow b j hb:=by simp only[Gh.clear];rw[if_pos hb]
 dB b j hb:=hw.fL b j l (h.beyond hb)
 box b j hb q:=by have:=hw.eU b j q;rw[h.beyond hb] at this;cases this
 cell b j hb:=hw.dR b j l (h.beyond hb)
theorem eK.clear {r:Value}{sz:Nat}{o:aS}{ro:Obj}(h:eK X G o ro):eK X (G.clear r sz) o ro:=eK.mono (G:=G) (G':=G.clear r sz) (fun _ _ _ h=>h) (fun _ _ h=>h) h
theorem qs (h : SR X N G st a w) {l : Loc} {sz : Nat} (hc : st.dn l = .own sz) {r : Value} (hr : QR G a w l r) {st' : St} (hd : st.drop l = some st') :
    SR X N (G.clear r sz) st' a w ∧ Step G w (G.clear r sz) w ∧ Aa G w (G.clear r sz) w r sz ∧ gR G l sz r := by
  have ho := h.UJ hc hr;refine ⟨?_, Step.clear r sz, ho.free h.wf, ho⟩
  have henv : ∀ i v c, look st.env i = some (v, c) → SV (G.clear r sz) v (a.tmps.getD i undef) ∧ i < N := fun i v c e =>
    ⟨SV.mono (G := G) (G' := G.clear r sz) (fun _ _ _ h => h) (fun _ _ h => h) (fun _ _ h => h) (h.env i v c e).1, (h.env i v c e).2⟩
  have hlb : ∀ k, aQ st.lb k ≠ .none → ∃ b ro, (G.clear r sz).lb k = some b ∧ w.heap[b]? = some ro ∧ eK X (G.clear r sz) (aQ st.lb k) ro := fun k hn => by obtain ⟨b, ro, h1, h2, h3⟩ := h.lb k hn; exact ⟨b, ro, h1, h2, h3.clear⟩
  have hbx : ∀ id, st.m.get id ≠ .none → ∃ b ro, (G.clear r sz).bx id = some b ∧ w.heap[b]? = some ro ∧ eK X (G.clear r sz) (st.m.get id) ro := fun k hn => by obtain ⟨b, ro, h1, h2, h3⟩ := h.mr.bx k hn; exact ⟨b, ro, h1, h2, h3.clear⟩
  cases l with
  | slot i =>
    obtain ⟨v, hv⟩ := p7 hc;simp only [St.drop, hv, aK, Option.some.injEq] at hd;subst hd;refine { size := h.size, env := ?_, own := ?_, lk := ?_, lb := hlb, dE := ?_, dO := h.dO, mr := ?_, wf := h.wf.clear r sz }
    · intro j v' c' e;rw [dZ] at e;split at e
      · rename_i e'; subst e';simp only [Option.some.injEq, Prod.mk.injEq] at e;obtain ⟨rfl, rfl⟩ := e;exact henv i v _ hv
      · exact henv j v' c' e
    · intro j v' sz' e;rw [dZ] at e;split at e
      · simp at e
      · rename_i e';exact ho.clear (h.own j v' sz' e) (fun q => e' (by simpa using q))
    · intro j l hm;have := h.lk j l (qF hm).1
      cases l <;> exact this
    · intro k cs cp off sz' e1 e2 b r' e3 e4;exact ho.clear (h.dE k cs cp off sz' e1 e2 b r' e3 e4) (by simp)
    · exact { bx := hbx, own := fun id cs cp off sz' e1 e2 b r' e3 e4 => ho.clear (h.mr.own id cs cp off sz' e1 e2 b r' e3 e4) (by simp), kY := h.mr.kY, cd := h.mr.cd }
  | L k off =>
    simp only [St.dn] at hc;split at hc
    · rename_i cs cp e;simp only [St.drop, e, aK, Option.some.injEq] at hd;subst hd;refine { size := h.size, env := henv, own := ?_, lk := ?_, lb := ?_, dE := ?_, dO := ?_, mr := ?_, wf := h.wf.clear r sz }
      · intro j v' sz' e';exact ho.clear (h.own j v' sz' e') (by simp)
      · intro j l hm;have := h.lk j l hm
        cases l <;> exact this
      · intro k' hn;rw [cg] at hn ⊢;split at hn
        · rename_i e'; subst e';rw [if_pos rfl];obtain ⟨b, ro, h1, h2, h3⟩ := hlb k (by rw [e]; simp);rw [e] at h3
          cases h3 with
          | cells _ _ rc t f g1 g2 g3 => exact ⟨b, _, h1, h2, .cells _ _ _ _ _ g1 g2 (by simpa using g3)⟩
        · rename_i e';rw [if_neg e'];exact hlb k' hn
      · intro k' cs' cp' off' sz' e1 e2 b r' e3 e4;rw [cg] at e1;split at e1
        · rename_i e'; subst e';simp only [aS.cells.injEq] at e1;obtain ⟨rfl, rfl⟩ := e1;by_cases hoff : off = off'
          · subst hoff;rw [List.getElem?_set] at e2;split at e2
            · split at e2 <;> simp at e2
            · rename_i q; exact absurd rfl q
          · rw [List.getElem?_set_ne hoff] at e2;exact ho.clear (h.dE k cs cp off' sz' e e2 b r' e3 e4) (by simp [hoff])
        · rename_i e';exact ho.clear (h.dE k' cs' cp' off' sz' e1 e2 b r' e3 e4) (by simp [e'])
      · intro k' b hb;rw [cg];split
        · simp
        · exact h.dO k' b hb
      · exact { bx := hbx, own := fun id cs cp off sz' e1 e2 b r' e3 e4 => ho.clear (h.mr.own id cs cp off sz' e1 e2 b r' e3 e4) (by simp), kY := h.mr.kY, cd := h.mr.cd }
    · cases hc
  | B id off =>
    simp only [St.dn] at hc;split at hc
    · rename_i cs cp e;simp only [St.drop, e, aK, IM.put, Option.some.injEq] at hd;subst hd
      have cd : id < st.m.bs.length := by
        rcases Nat.lt_or_ge id st.m.bs.length with q | q
        · exact q
        · simp [IM.get, List.getD_eq_getElem?_getD, List.getElem?_eq_none q] at e
      have hget : ∀ j, IM.get { st.m with bs := st.m.bs.set id (.cells cs (cp.set off .any)) } j = if id = j then .cells cs (cp.set off .any) else st.m.get j := by
        intro j;simp only [IM.get, List.getD_eq_getElem?_getD, List.getElem?_set];split
        · rename_i q; subst q; simp [cd]
        · rfl
      refine { size := h.size, env := henv, own := ?_, lk := ?_, lb := hlb, dE := ?_, dO := h.dO, mr := ?_, wf := h.wf.clear r sz }
      · intro j v' sz' e';exact ho.clear (h.own j v' sz' e') (by simp)
      · intro j l hm;have := h.lk j l hm
        cases l <;> exact this
      · intro k cs cp off sz' e1 e2 b r' e3 e4;exact ho.clear (h.dE k cs cp off sz' e1 e2 b r' e3 e4) (by simp)
      · refine { bx := ?_, own := ?_, kY := fun j b hb => (by have := h.mr.kY j b hb; simpa [IM.size] using this), cd := fun j hj => (by
            have q := h.mr.cd j hj;rw [hget, if_neg (by rintro rfl; rw [e] at q; cases q.2)]; exact ⟨by simpa [IM.size] using q.1, q.2⟩) }
        · intro j hn;rw [hget] at hn ⊢;split at hn
          · rename_i q; subst q;rw [if_pos rfl];obtain ⟨b, ro, h1, h2, h3⟩ := hbx id (by rw [e]; simp);rw [e] at h3
            cases h3 with
            | cells _ _ rc t f g1 g2 g3 => exact ⟨b, _, h1, h2, .cells _ _ _ _ _ g1 g2 (by simpa using g3)⟩
          · rename_i q; rw [if_neg q]; exact hbx j hn
        · intro j cs' cp' off' sz' e1 e2 b r' e3 e4;rw [hget] at e1;split at e1
          · rename_i q; subst q;simp only [aS.cells.injEq] at e1;obtain ⟨rfl, rfl⟩ := e1;by_cases hoff : off = off'
            · subst hoff;rw [List.getElem?_set] at e2;split at e2
              · split at e2 <;> simp at e2
              · rename_i q; exact absurd rfl q
            · rw [List.getElem?_set_ne hoff] at e2;exact ho.clear (h.mr.own id cs cp off' sz' e e2 b r' e3 e4) (by simp [hoff])
          · rename_i q;exact ho.clear (h.mr.own j cs' cp' off' sz' e1 e2 b r' e3 e4) (by simp [q])
    · cases hc
  | marked => exact hr.elim
end Go.Idl
namespace Go.Idl
open Classical
variable {X:Ctx}{N:Nat}{G:Gh}{st:St}{a:Act}{w:World}
theorem tW {cp:List cV}{off n:Nat}{c:cV}(hl:off+n≤cp.length) (i:Nat) :
  (bh cp off n c)[i]?=if i<off then cp[i]? else if i<off+n then some c else cp[i]?:=by
 unfold bh;have h1:(cp.take off).length=off:=by simp;omega
 rw[List.append_assoc];by_cases h2:i<off
 ·rw[if_pos h2,List.getElem?_append_left (by omega),List.getElem?_take_of_lt h2]
 ·rw[if_neg h2,List.getElem?_append_right (by omega),h1];by_cases h3:i<off+n
  ·rw[if_pos h3,List.getElem?_append_left (by simp;omega),List.getElem?_replicate,if_pos (by omega)]
  ·rw[if_neg h3,List.getElem?_append_right (by simp;omega),List.getElem?_drop];congr 1;simp;omega
theorem xC {cp:List cV}{off n:Nat}{c:cV}(hl:off+n≤cp.length):(bh cp off n c).length=cp.length:=by unfold bh;simp;omega
theorem tX {cs vs:List IV}{off:Nat}(hl:off+vs.length≤cs.length):(over cs off vs).length=cs.length:=by unfold over;simp;omega
theorem tf {rc rs:List Value}{o:Nat}(hl:o+rs.length≤rc.length) (i:Nat) :
  (rc.take o++rs++rc.drop (o+rs.length))[i]?=if i<o then rc[i]? else if i<o+rs.length then rs[i-o]? else rc[i]?:=by
 have h1:(rc.take o).length=o:=by simp;omega
 rw[List.append_assoc];by_cases h2:i<o
 ·rw[if_pos h2,List.getElem?_append_left (by omega),List.getElem?_take_of_lt h2]
 ·rw[if_neg h2,List.getElem?_append_right (by omega),h1];by_cases h3:i<o+rs.length
  ·rw[if_pos h3,List.getElem?_append_left (by omega)]
  ·rw[if_neg h3,List.getElem?_append_right (by omega),List.getElem?_drop];congr 1;omega
theorem NZ {k:Nat}{lk:List (Nat×Loc)}{i:Nat}{l:Loc}(h:(i,l)∈kU k lk):(i,l)∈lk∧∀off,l ≠ .L k off:=by
 induction lk with
 |nil=>simp[kU] at h
 |cons p lk ih =>
  obtain⟨i',l'⟩:=p;simp only[kU] at h;split at h
  ·rename_i k' off';split at h
   ·exact⟨List.mem_cons_of_mem _ (ih h).1,(ih h).2⟩
   ·rename_i hk;rcases List.mem_cons.1 h with e | h
    ·cases e;exact⟨List.mem_cons_self,fun off e=>hk (by cases e;rfl)⟩
    ·exact⟨List.mem_cons_of_mem _ (ih h).1,(ih h).2⟩
  ·rename_i hn;rcases List.mem_cons.1 h with e | h
   ·cases e;exact⟨List.mem_cons_self,fun off e=>hn k off (by rw[e])⟩
   ·exact⟨List.mem_cons_of_mem _ (ih h).1,(ih h).2⟩
theorem NX {f:Nat→Bool}{lk:List (Nat×Loc)}{i:Nat}{l:Loc}(h:(i,l)∈kT f lk):(i,l)∈lk∧∀id off,l=.B id off→f id=false:=by
 induction lk with
 |nil=>simp[kT] at h
 |cons p lk ih =>
  obtain⟨i',l'⟩:=p;simp only[kT] at h;split at h
  ·rename_i k' off';split at h
   ·exact⟨List.mem_cons_of_mem _ (ih h).1,(ih h).2⟩
   ·rename_i hk;rcases List.mem_cons.1 h with e | h
    ·cases e;exact⟨List.mem_cons_self,fun id off e=>by cases e;simpa using hk⟩
    ·exact⟨List.mem_cons_of_mem _ (ih h).1,(ih h).2⟩
  ·rename_i hn;rcases List.mem_cons.1 h with e | h
   ·cases e;exact⟨List.mem_cons_self,fun id off e=>absurd (by rw[e]) (hn id off)⟩
   ·exact⟨List.mem_cons_of_mem _ (ih h).1,(ih h).2⟩
def Lp:IV→Option Loc
 |.pL k off=>some (.L k off)
 |.pB id off=>some (.B id off)
 |_=>none
theorem eK.write {cs vs:List IV}{cp:List cV}{rc rs:List Value}{t:TypeId}{f:Nat×Nat}{off n:Nat}{c:cV}(h:eK X G (.cells cs cp) (.cells ⟨rc⟩ t f)) (hv:c9 G vs rs) (hn:vs.length=n) (hl:off+n≤cs.length) :
  eK X G (.cells (over cs off vs) (bh cp off n c)) (.cells ⟨rc.take off++rs++rc.drop (off+rs.length)⟩ t f):=by
 cases h with
 |cells _ _ _ _ _ g1 g2 g3 =>
  refine .cells _ _ _ _ _ (g1.over hv off) (fun i hi=>g2 i ?_) ?_
  ·have:=g1.1;have:=hv.1;simp at hi;omega
  ·rw[xC (by omega),tX (by omega),g3]
theorem gz.nO {b o:Nat}{rs:List Value}{i:Nat}(hb:∃rc t f,w.heap[b]?=some (.cells ⟨rc⟩ t f)∧o+rs.length≤rc.length) (h:gz G a w i .marked):gz G a (w.setCells b o rs) i .marked:=by
 intro b' o' sp len cap e;obtain⟨c,t,f0,hc,hf⟩:=h b' o' sp len cap e;by_cases hbb:b'=b
 ·subst hbb;obtain⟨rc,t',f,h1,h2⟩:=hb;rw[hc] at h1;simp only[Option.some.injEq,Obj.cells.injEq] at h1;obtain⟨rfl,rfl,rfl⟩:=h1;refine⟨⟨rc.take o++rs++rc.drop (o+rs.length)⟩,t,f0,gr b' rs o w rc t _ hc h2,?_⟩;have:(Array.mk rc).size=(Array.mk (rc.take o++rs++rc.drop (o+rs.length))).size:=by simp;omega
  rw[this] at hf;exact hf
 ·exact⟨c,t,f0,by rw[cX b rs o w b' hbb];exact hc,hf⟩
theorem r8 (h:SR X N G st a w) {n:Nat}{p:IV}{vs:List IV}{c:cV}{st':St}(hs:bK st n p vs c=some st') {rp:Value}(hp:SV G p rp) {rs:List Value}(hv:c9 G vs rs)
  (hc:∀sz,c=.own sz→∃r,rs=[r]∧∀l,Lp p=some l→gR G l sz r) :
  ∃b o,rp=.pointer (some ⟨b,o,none⟩)∧vs.length=n∧(∀i,(storeCells ⟨b,o,none⟩ rs).run X.P i=.ok () (i.setCells b o rs)∨i≠w)∧SR X N G st' a (w.setCells b o rs)∧Step G w G (w.setCells b o rs):=by
 unfold bK at hs;split at hs
 ·cases hs
 ·rename_i hlen;have hlen:vs.length=n:=by simpa using hlen
  split at hs
  ·
   rename_i k off;obtain⟨b,hb,rfl⟩:=hp;split at hs
   ·rename_i cs cp q e1 e2;split at hs
    ·rename_i hle;simp only[aK,Option.some.injEq] at hs;subst hs;obtain⟨b',ro,h1,h2,h3⟩:=h.lb k (by rw[e1];simp);rw[hb] at h1;simp only[Option.some.injEq] at h1;subst h1;rw[e1] at h3;have hopn:G.p8 b:=.inr ⟨k,hb⟩;have hboxed:=hopn.boxed
     cases h3 with
     |cells _ _ rc t f g1 g2 g3 =>
      have hrl:off+rs.length≤rc.length:=by rw[hv.1,g1.1];omega
      have hheap:=gr b rs off w rc t f h2 hrl;have hcell:∀i,(w.setCells b off rs).cell? ⟨b,i,none⟩=if i<off then rc[i]? else if i<off+rs.length then rs[i-off]? else rc[i]?:=by intro i;rw[cC hheap,tf hrl]
      refine⟨b,off,rfl,hlen,?_,?_,Step.setCells hopn⟩
      ·intro i;by_cases hi:i=w
       ·subst hi;left;have:=run_storeCells_cells (P:=X.P) b off rs 0 i (fun j hj=>by rw[Nat.add_zero,cC h2,List.getElem?_eq_getElem (by omega)];rfl)
         (fun j hj=>by
          rw[Nat.add_zero,gV h2];have:=g2 (off+j) (by omega)
          cases hq:(decide (f.1≤off+j)&&decide (off+j<f.2)) with
          |false=>rfl
          |true=>simp at hq;exact absurd hq this) (hv.one e2)
        simpa using this
       ·exact .inr hi
      ·have hother:∀b',b'≠b→(w.setCells b off rs).heap[b']?=w.heap[b']?:=fun b' hne=>cX b rs off w b' hne;refine { size:=h.size,env:=h.env,own:=h.own,lk:=?_,lb:=?_,dE:=?_,dO:=?_,mr:=?_,wf:=h.wf.setCells hboxed }
       ·intro i l hm;obtain⟨hm,hne⟩:=NZ hm;have hl:=h.lk i l hm
        cases l with
        |slot j=>exact hl
        |L k' off' =>
         obtain⟨b',h4,h5⟩:=hl;refine⟨b',h4,?_⟩;have:b'≠b:=fun q=>by
          subst q;have:=h.wf.ja k' k b' h4 hb;subst this;exact hne off' rfl
         rw[World.cell?_of_block (hother b' this)];exact h5
        |B id off' =>
         obtain⟨b',h4,h5⟩:=hl;refine⟨b',h4,?_⟩;have:b'≠b:=fun q=>by subst q;exact h.wf.fB id k b' h4 hb
         rw[World.cell?_of_block (hother b' this)];exact h5
        |marked=>exact gz.nO ⟨rc,t,f,h2,hrl⟩ hl
       ·intro k' hn;rw[cg] at hn ⊢;split at hn
        ·rename_i e';subst e';rw[if_pos rfl];exact⟨b,_,hb,hheap,(eK.cells cs cp rc t f g1 g2 g3).write hv hlen hle⟩
        ·rename_i e';rw[if_neg e'];obtain⟨b',ro,h4,h5,h6⟩:=h.lb k' hn;have:b'≠b:=fun q=>by subst q;exact e' (h.wf.ja k' k b' h4 hb).symm
         exact⟨b',ro,h4,by rw[hother b' this];exact h5,h6⟩
       ·intro k' cs' cp' off' sz e3 e4 b' r h4 h5;rw[cg] at e3;split at e3
        ·rename_i e';subst e';simp only[aS.cells.injEq] at e3;obtain⟨rfl,rfl⟩:=e3;rw[hb] at h4;simp only[Option.some.injEq] at h4;subst h4;rw[hcell] at h5;rw[tW (by omega)] at e4;by_cases q1:off'<off
         ·rw[if_pos q1] at e4 h5;exact h.dE k cs cp off' sz e1 e4 b r hb (by rw[cC h2];exact h5)
         ·rw[if_neg q1] at e4 h5;by_cases q2:off'<off+n
          ·rw[if_pos q2] at e4;simp only[Option.some.injEq] at e4;obtain⟨r',hr',ho⟩:=hc sz e4;subst hr';have:n=1:=by rw[←hlen,←hv.1];rfl
           have:off'=off:=by omega
           subst this;simp at h5;subst h5;exact ho _ rfl
          ·rw[if_neg q2] at e4;rw[if_neg (by rw[hv.1,hlen];exact q2)] at h5;exact h.dE k cs cp off' sz e1 e4 b r hb (by rw[cC h2];exact h5)
        ·rename_i e';have:b'≠b:=fun q=>by subst q;exact e' (h.wf.ja k' k b' h4 hb).symm
         rw[World.cell?_of_block (hother b' this)] at h5;exact h.dE k' cs' cp' off' sz e3 e4 b' r h4 h5
       ·intro k' b' hb';rw[cg];split
        ·simp
        ·exact h.dO k' b' hb'
       ·refine { bx:=?_,own:=?_,kY:=h.mr.kY,cd:=h.mr.cd }
        ·intro id hn;obtain⟨b',ro,h4,h5,h6⟩:=h.mr.bx id hn;have:b'≠b:=fun q=>by subst q;exact h.wf.fB id k b' h4 hb
         exact⟨b',ro,h4,by rw[hother b' this];exact h5,h6⟩
        ·intro id cs' cp' off' sz e3 e4 b' r h4 h5;have:b'≠b:=fun q=>by subst q;exact h.wf.fB id k b' h4 hb
         rw[World.cell?_of_block (hother b' this)] at h5;exact h.mr.own id cs' cp' off' sz e3 e4 b' r h4 h5
    ·cases hs
   ·cases hs
  ·
   rename_i id off;have hb:∃b,G.bx id=some b∧rp=.pointer (some ⟨b,off,none⟩):=by cases hp with | pB _ _ b hb=>exact⟨b,hb,rfl⟩
   obtain⟨b,hb,rfl⟩:=hb;split at hs
   ·rename_i cs cp q e1 e2;split at hs
    ·rename_i hle;simp only[aK,IM.put,Option.some.injEq] at hs;subst hs;obtain⟨b',ro,h1,h2,h3⟩:=h.mr.bx id (by rw[e1];simp);rw[hb] at h1;simp only[Option.some.injEq] at h1;subst h1;rw[e1] at h3;have hopn:G.p8 b:=.inl ⟨id,hb,by
      cases q:G.cd id with
      |false=>rfl
      |true=>have:=h.mr.cd id q;rw[e1] at this;cases this.2⟩
     have hboxed:=hopn.boxed;have cd:id<st.m.bs.length:=h.mr.kY id b hb;have hget:∀(e:Nat) j,IM.get { bs:=st.m.bs.set id (.cells (over cs off vs) (bh cp off n c)),kS:=e } j=if id=j then .cells (over cs off vs) (bh cp off n c) else st.m.get j:=by
      intro e j;simp only[IM.get,List.getD_eq_getElem?_getD,List.getElem?_set];split
      ·rename_i q;subst q;simp[cd]
      ·rfl
     cases h3 with
     |cells _ _ rc t f g1 g2 g3 =>
      have hrl:off+rs.length≤rc.length:=by rw[hv.1,g1.1];omega
      have hheap:=gr b rs off w rc t f h2 hrl;have hcell:∀i,(w.setCells b off rs).cell? ⟨b,i,none⟩=if i<off then rc[i]? else if i<off+rs.length then rs[i-off]? else rc[i]?:=by intro i;rw[cC hheap,tf hrl]
      refine⟨b,off,rfl,hlen,?_,?_,Step.setCells hopn⟩
      ·intro i;by_cases hi:i=w
       ·subst hi;left;have:=run_storeCells_cells (P:=X.P) b off rs 0 i (fun j hj=>by rw[Nat.add_zero,cC h2,List.getElem?_eq_getElem (by omega)];rfl)
         (fun j hj=>by
          rw[Nat.add_zero,gV h2];have:=g2 (off+j) (by omega)
          cases hq:(decide (f.1≤off+j)&&decide (off+j<f.2)) with
          |false=>rfl
          |true=>simp at hq;exact absurd hq this) (hv.one e2)
        simpa using this
       ·exact .inr hi
      ·have hother:∀b',b'≠b→(w.setCells b off rs).heap[b']?=w.heap[b']?:=fun b' hne=>cX b rs off w b' hne;refine { size:=h.size,env:=h.env,own:=h.own,lk:=?_,lb:=?_,dE:=?_,dO:=h.dO,mr:=?_,wf:=h.wf.setCells hboxed }
       ·intro i l hm;obtain⟨hm,hne⟩:=NX hm;have hl:=h.lk i l hm
        cases l with
        |slot j=>exact hl
        |L k' off' =>
         obtain⟨b',h4,h5⟩:=hl;refine⟨b',h4,?_⟩;have:b'≠b:=fun q=>by subst q;exact h.wf.fB id k' b' hb h4
         rw[World.cell?_of_block (hother b' this)];exact h5
        |B id' off' =>
         obtain⟨b',h4,h5⟩:=hl;refine⟨b',h4,?_⟩;have:b'≠b:=fun q=>by
          subst q;have:=h.wf.inj id' id b' h4 hb;subst this;have:=hne id' off' rfl;simp at this
         rw[World.cell?_of_block (hother b' this)];exact h5
        |marked=>exact gz.nO ⟨rc,t,f,h2,hrl⟩ hl
       ·intro k' hn;obtain⟨b',ro,h4,h5,h6⟩:=h.lb k' hn;have:b'≠b:=fun q=>by subst q;exact h.wf.fB id k' b' hb h4
        exact⟨b',ro,h4,by rw[hother b' this];exact h5,h6⟩
       ·intro k' cs' cp' off' sz e3 e4 b' r h4 h5;have:b'≠b:=fun q=>by subst q;exact h.wf.fB id k' b' hb h4
        rw[World.cell?_of_block (hother b' this)] at h5;exact h.dE k' cs' cp' off' sz e3 e4 b' r h4 h5
       ·refine { bx:=?_,own:=?_,kY:=fun j b hb=>(by have:=h.mr.kY j b hb;simpa[IM.size] using this),cd:=fun j hj=>(by
         have q:=h.mr.cd j hj;refine⟨by simpa[IM.size] using q.1,?_⟩;rw[hget,if_neg (by rintro rfl;rw[e1] at q;cases q.2)];exact q.2)}
        ·intro id' hn;rw[hget] at hn ⊢;split at hn
         ·rename_i e';subst e';rw[if_pos rfl];exact⟨b,_,hb,hheap,(eK.cells cs cp rc t f g1 g2 g3).write hv hlen hle⟩
         ·rename_i e';rw[if_neg e'];obtain⟨b',ro,h4,h5,h6⟩:=h.mr.bx id' hn;have:b'≠b:=fun q=>by subst q;exact e' (h.wf.inj id' id b' h4 hb).symm
          exact⟨b',ro,h4,by rw[hother b' this];exact h5,h6⟩
        ·intro id' cs' cp' off' sz e3 e4 b' r h4 h5;rw[hget] at e3;split at e3
         ·rename_i e';subst e';simp only[aS.cells.injEq] at e3;obtain⟨rfl,rfl⟩:=e3;rw[hb] at h4;simp only[Option.some.injEq] at h4;subst h4;rw[hcell] at h5;rw[tW (by omega)] at e4;by_cases q1:off'<off
          ·rw[if_pos q1] at e4 h5;exact h.mr.own id cs cp off' sz e1 e4 b r hb (by rw[cC h2];exact h5)
          ·rw[if_neg q1] at e4 h5;by_cases q2:off'<off+n
           ·rw[if_pos q2] at e4;simp only[Option.some.injEq] at e4;obtain⟨r',hr',ho⟩:=hc sz e4;subst hr';have:n=1:=by rw[←hlen,←hv.1];rfl
            have:off'=off:=by omega
            subst this;simp at h5;subst h5;exact ho _ rfl
           ·rw[if_neg q2] at e4;rw[if_neg (by rw[hv.1,hlen];exact q2)] at h5;exact h.mr.own id cs cp off' sz e1 e4 b r hb (by rw[cC h2];exact h5)
         ·rename_i e';have:b'≠b:=fun q=>by subst q;exact e' (h.wf.inj id' id b' h4 hb).symm
          rw[World.cell?_of_block (hother b' this)] at h5;exact h.mr.own id' cs' cp' off' sz e3 e4 b' r h4 h5
    ·cases hs
   ·cases hs
  ·cases hs
theorem ir (h:SR X N G st a w) {p:IV}{n:Nat}{cs:List IV}(hc:bu st.lb st.m p n=some cs) {rp:Value}(hp:SV G p rp) :
  ∃b o rs,rp=.pointer (some ⟨b,o,none⟩)∧c9 G cs rs∧cs.length=n∧∀j v,rs[j]?=some v→w.cell? ⟨b,o+j,none⟩=some v:=by
 unfold bu at hc;split at hc
 ·rename_i row off;unfold cut at hc;split at hc
  ·rename_i hle;simp only[Option.some.injEq] at hc;subst hc
   cases hp with
   |pI _ _ b o g h1 h2 =>
    refine⟨b,o+off,(List.range n).map fun j=>g (off+j),rfl,c9.ku (by simp;omega) ?_,by simp;omega,?_⟩
    ·intro i v r e1 e2;have hi:i<n:=by have:=(List.getElem?_eq_some_iff.1 e2).1;simpa using this
     rw[List.getElem?_take_of_lt hi,List.getElem?_drop] at e1;simp[hi] at e2;subst e2;obtain⟨hlt,rfl⟩:=List.getElem?_eq_some_iff.1 e1;exact (h2 _ hlt).EJ
    ·intro j v e;have hj:j<n:=by have:=(List.getElem?_eq_some_iff.1 e).1;simpa using this
     simp[hj] at e;subst e;rw[Nat.add_assoc];exact h.wf.dB _ _ _ (h1 _ (by omega))
  ·cases hc
 ·rename_i k off;obtain⟨b,hb,rfl⟩:=hp;split at hc
  ·rename_i cs' cp e;obtain⟨b',ro,h1,h2,h3⟩:=h.lb k (by rw[e];simp);rw[hb] at h1;simp only[Option.some.injEq] at h1;subst h1;rw[e] at h3
   cases h3 with
   |cells _ _ rc t f g1 g2 g3 =>
    unfold cut at hc;split at hc
    ·rename_i hle;simp only[Option.some.injEq] at hc;subst hc;refine⟨b,off,(rc.drop off).take n,rfl,(g1.drop off).take n,by simp;omega,?_⟩;intro j v e;have hj:j<n:=by have:=(List.getElem?_eq_some_iff.1 e).1;simp at this;omega
     rw[List.getElem?_take_of_lt hj,List.getElem?_drop] at e;rw[cC h2];exact e
    ·cases hc
  ·cases hc
 ·rename_i id off;split at hc
  ·rename_i cs' cp e
   cases hp with
   |pB _ _ b hb =>
    obtain⟨b',ro,h1,h2,h3⟩:=h.mr.bx id (by rw[e];simp);rw[hb] at h1;simp only[Option.some.injEq] at h1;subst h1;rw[e] at h3
    cases h3 with
    |cells _ _ rc t f g1 g2 g3 =>
     unfold cut at hc;split at hc
     ·rename_i hle;simp only[Option.some.injEq] at hc;subst hc;refine⟨b,off,(rc.drop off).take n,rfl,(g1.drop off).take n,by simp;omega,?_⟩;intro j v e;have hj:j<n:=by have:=(List.getElem?_eq_some_iff.1 e).1;simp at this;omega
      rw[List.getElem?_take_of_lt hj,List.getElem?_drop] at e;rw[cC h2];exact e
     ·cases hc
  ·cases hc
 ·cases hc
end Go.Idl
namespace Go.Idl
open Classical
variable {X:Ctx}{N:Nat}{G:Gh}{st:St}{a:Act}{w:World}
structure dV (w w':World) (o:Obj):Prop where
 os:w'.os=w.os
 tape:w'.tape=w.tape
 output:w'.output=w.output
 size:w'.heap.size=w.heap.size+1
 gj:∀k,k<w.heap.size→w'.heap[k]?=w.heap[k]?
 new:w'.heap[w.heap.size]?=some o
 drawn:w.drawn≤w'.drawn
theorem dV.alloc (w:World) (o:Obj):dV w (w.alloc o) o where
 os:=rfl
 tape:=rfl
 output:=rfl
 size:=by simp
 gj k h:=by show (w.heap.push o)[k]?=_;rw[Array.getElem?_push,if_neg (by omega)]
 new:=by show (w.heap.push o)[w.heap.size]?=_;simp
 drawn:=Nat.le_refl _
theorem dV.pv (w:World) (o:Obj):dV w (w.drew.alloc o) o where
 os:=rfl
 tape:=rfl
 output:=rfl
 size:=by simp
 gj k h:=by show (w.heap.push o)[k]?=_;rw[Array.getElem?_push,if_neg (by omega)]
 new:=by show (w.heap.push o)[w.heap.size]?=_;simp
 drawn:=Nat.le_succ _
structure OU (G:Gh) (b:Nat):Prop where
 box:¬G.boxed b
 dB:∀o,G.dB b o=none
 ow:∀o,G.ow b o=none
theorem WF.fresh (h:WF X G w) {b:Nat}(hb:w.heap.size≤b):OU G b where
 box q:=by have:=h.eY b q;omega
 dB o:=by
  cases e:G.dB b o with
  |none=>rfl
  |some v =>have:=h.dB b o v e;have:=World.block_lt_of_cell? _ _ this;simp at this;omega
 ow o:=by
  cases e:G.ow b o with
  |none=>rfl
  |some v =>obtain⟨x,hx⟩:=Option.isSome_iff_exists.1 (h.dR b o v e).1;have:=World.block_lt_of_cell? _ _ hx;simp at this;omega
theorem dV.cell {w w':World}{o:Obj}(g:dV w w' o) {b i:Nat}{v:Value}(h:w.cell? ⟨b,i,none⟩=some v):w'.cell? ⟨b,i,none⟩=some v:=by have:=World.block_lt_of_cell? _ _ h;rw[World.cell?_of_block (g.gj b this)];exact h
theorem WF.grow (h:WF X G w) {w':World}{o:Obj}(g:dV w w' o):WF X G w' where
 dB b i v e:=g.cell (h.dB b i v e)
 inj:=h.inj
 ja:=h.ja
 fB:=h.fB
 eY b q:=by have:=h.eY b q;have:=g.size;omega
 ew:=h.ew
 eU:=h.eU
 fL:=h.fL
 dR b i l e:=by obtain⟨h1,h2⟩:=h.dR b i l e;obtain⟨v,hv⟩:=Option.isSome_iff_exists.1 h1;have hlt:=World.block_lt_of_cell? _ _ hv;exact⟨by rw[g.cell hv];rfl,by rw[World.frozen?_of_block (g.gj b hlt)];exact h2⟩
 iD:=h.iD
 gj:=by have:=h.gj;have:=g.size;omega
theorem dV.heap {w w':World}{o ro:Obj}(g:dV w w' o) {b:Nat}(h:w.heap[b]?=some ro):w'.heap[b]?=some ro:=by rw[g.gj b (gw h)];exact h
theorem dV.yZ {w w':World}{o:Obj}(g:dV w w' o) {b i:Nat}(hb:b<w.heap.size):w'.cell? ⟨b,i,none⟩=w.cell? ⟨b,i,none⟩:=World.cell?_of_block (g.gj b hb)
theorem MR.grow {m:IM}(h:MR X G m w) (hw:WF X G w) {w':World}{o:Obj}(g:dV w w' o):MR X G m w' where
 bx id hn:=by obtain⟨b,ro,h1,h2,h3⟩:=h.bx id hn;exact⟨b,ro,h1,g.heap h2,h3⟩
 own id cs cp off sz e1 e2 b r e3 e4:=by rw[g.yZ (hw.eY b (.inl ⟨id,e3⟩))] at e4;exact h.own id cs cp off sz e1 e2 b r e3 e4
 kY:=h.kY
 cd:=h.cd
theorem gz.grow {i:Nat}{l:Loc}(h:gz G a w i l) {w':World}{o:Obj}(g:dV w w' o):gz G a w' i l:=by
 cases l with
 |slot j=>exact h
 |L k off=>obtain⟨b,h1,h2⟩:=h;exact⟨b,h1,g.cell h2⟩
 |B k off=>obtain⟨b,h1,h2⟩:=h;exact⟨b,h1,g.cell h2⟩
 |marked =>intro b o' sp len cap e;obtain⟨c,t,f,hc,hf⟩:=h b o' sp len cap e;exact⟨c,t,f,g.heap hc,hf⟩
theorem SR.grow (h:SR X N G st a w) {w':World}{o:Obj}(g:dV w w' o):SR X N G st a w' where
 size:=h.size
 env:=h.env
 own:=h.own
 lk i l hm:=(h.lk i l hm).grow g
 lb k hn:=by obtain⟨b,ro,h1,h2,h3⟩:=h.lb k hn;exact⟨b,ro,h1,g.heap h2,h3⟩
 dE k cs cp off sz e1 e2 b r e3 e4:=by rw[g.yZ (h.wf.eY b (.inr ⟨k,e3⟩))] at e4;exact h.dE k cs cp off sz e1 e2 b r e3 e4
 dO:=h.dO
 mr:=h.mr.grow h.wf g
 wf:=h.wf.grow g
theorem Step.grow {w':World}{o:Obj}(g:dV w w' o):Step G w G w' where
 os:=g.os
 tape:=g.tape
 output:=g.output
 size:=by have:=g.size;omega
 dB _ _ _ h:=h
 bx _ _ h:=h
 other k x h _ _:=g.heap h
 cells k c t f h _:=⟨c,f,g.heap h,rfl,fun _ _=>rfl,.inl rfl⟩
 eW _ _ _ _ _ h:=.inl h
 fY _ _ _ _ h:=by simp[h]
 fh _ _ h:=h
 cd:=rfl
 gj:=rfl
 loop b L h:=⟨L,g.heap h⟩
 gm _ _ h:=.inl h
noncomputable def Gh.jf (G:Gh) (b0:Nat) (rc:List Value) (n:Nat):Gh:={ G with dB:=fun b o=>if b=b0∧o<n then rc[o]? else G.dB b o }
theorem qi {b0 n:Nat}{rc:List Value}(hf:∀o,G.dB b0 o=none) {b o:Nat}{v:Value}(h:G.dB b o=some v):(G.jf b0 rc n).dB b o=some v:=by
 simp only[Gh.jf];rw[if_neg]
 ·exact h
 ·rintro ⟨rfl,_⟩;rw[hf] at h;cases h
theorem Hd {b0 n:Nat}{rc:List Value}{o:Nat}(h:o<n):(G.jf b0 rc n).dB b0 o=rc[o]?:=by simp[Gh.jf,h]
theorem SR.jf (h:SR X N G st a w) {b0 n:Nat}{rc:List Value}{t:TypeId}{f:Nat×Nat}(hb:w.heap[b0]?=some (.cells ⟨rc⟩ t f)) (hfr:OU G b0):SR X N (G.jf b0 rc n) st a w:=by
 have m:∀b o v,G.dB b o=some v→(G.jf b0 rc n).dB b o=some v:=fun b o v h=>qi hfr.dB h;have mo:∀{o ro},eK X G o ro→eK X (G.jf b0 rc n) o ro:=fun h=>h.mono m (fun _ _ h=>h);exact {
  size:=h.size
  env:=fun i v c e=>⟨(h.env i v c e).1.mono m (fun _ _ h=>h) (fun _ _ h=>h),(h.env i v c e).2⟩
  own:=h.own
  lk:=fun i l hm=>by have:=h.lk i l hm;cases l<;>exact this
  lb:=fun k hn=>by obtain⟨b,ro,h1,h2,h3⟩:=h.lb k hn;exact⟨b,ro,h1,h2,mo h3⟩
  dE:=h.dE
  dO:=h.dO
  mr:={ bx:=fun k hn=>by obtain⟨b,ro,h1,h2,h3⟩:=h.mr.bx k hn;exact⟨b,ro,h1,h2,mo h3⟩,own:=h.mr.own,kY:=h.mr.kY,cd:=h.mr.cd }
  wf:={
   dB:=fun b o v e=>by
    simp only[Gh.jf] at e;split at e
    ·rename_i q;obtain⟨rfl,_⟩:=q;rw[cC hb];exact e
    ·exact h.wf.dB b o v e
   inj:=h.wf.inj
   ja:=h.wf.ja
   fB:=h.wf.fB
   eY:=h.wf.eY
   ew:=fun b o q=>by
    simp only[Gh.jf];rw[if_neg]
    ·exact h.wf.ew b o q
    ·rintro ⟨rfl,_⟩;exact hfr.box q
   eU:=h.wf.eU
   fL:=fun b o l e=>by
    simp only[Gh.jf];rw[if_neg]
    ·exact h.wf.fL b o l e
    ·rintro ⟨rfl,_⟩;have:G.ow b o=some l:=e;rw[hfr.ow] at this;cases this
   dR:=h.wf.dR
   gj:=h.wf.gj
   iD:=fun g row hr=>(h.wf.iD g row hr).mono m (fun _ _ h=>h)}}
theorem jY (h:SR X N G st a w) {w':World}{row:List IV}{rc:List Value}{t:TypeId}{f:Nat×Nat}(g:dV w w' (.cells ⟨rc⟩ t f)) {len cap sz:Nat}
  (hl:row.length=len*sz) (hc:rc.length=cap*sz) (hle:len≤cap) (hf:∀i,i<rc.length→¬(f.1≤i∧i<f.2)) (hv:c9 G.pl row (rc.take row.length)) :
  OR X N G w st a (.sl row len) (.own sz) (.slice (some ⟨w.heap.size,0,none⟩) len cap) (G.jf w.heap.size rc row.length) w':=by
 have hfr:=h.wf.fresh (Nat.le_refl _);have hrl:row.length≤rc.length:=by rw[hl,hc];exact Nat.mul_le_mul_right _ hle
 have hsr:=(h.grow g).jf (n:=row.length) g.new hfr;refine { sr:=hsr,sv:=?_,step:=?_,free:=?_ }
 ·refine VR.sl row len w.heap.size 0 cap (fun i=>rc.getD i undef) ?_ ?_ hle
  ·intro i hi;rw[Nat.zero_add,Hd hi,List.getElem?_eq_getElem (by omega),List.getD_eq_getElem?_getD,List.getElem?_eq_getElem (by omega)];rfl
  ·intro i hi;have:=hv.2 i hi (by simp;omega);rw[List.getElem_take] at this;rw[List.getD_eq_getElem?_getD,List.getElem?_eq_getElem (by omega)];exact VR.mono (G:=G.pl) (G':=(G.jf w.heap.size rc row.length).pl) (fun b o v h=>qi hfr.dB h) (fun _ _ h=>h) this
 ·have s:=Step.grow (G:=G) g;exact { s with
   dB:=fun b o v e=>qi hfr.dB e
   eW:=fun b o v hb _ e=>by
    simp only[Gh.jf] at e;rw[if_neg (by rintro ⟨rfl,_⟩;omega)] at e;exact .inl e }
 ·intro sz' e;simp only[cV.own.injEq] at e;subst e;have bey:∀b j,iE (.slice (some ⟨w.heap.size,0,none⟩) len cap) sz b j→b=w.heap.size∧row.length≤j∧j<rc.length:=by rintro b j ⟨o,sp,len',cap',e,h1,h2⟩;simp only[Value.slice.injEq,Option.some.injEq,Addr.mk.injEq] at e;obtain⟨⟨rfl,rfl,rfl⟩,rfl,rfl⟩:=e;exact⟨rfl,by omega,by omega⟩
  refine { spot:=?_,xm:=?_,ow:=?_,dB:=?_,box:=?_,cell:=?_ }
  ·intro b o sp len cap e;simp only[Value.slice.injEq,Option.some.injEq,Addr.mk.injEq] at e;exact e.1.2.2.symm
  ·intro b j hb;obtain⟨rfl,_,_⟩:=bey b j hb;exact .inl (Nat.le_refl _)
  ·intro b j hb;obtain⟨rfl,_,_⟩:=bey b j hb;exact hfr.ow j
  ·intro b j hb;obtain⟨rfl,h1,_⟩:=bey b j hb;simp only[Gh.jf];rw[if_neg (by rintro ⟨_,h2⟩;omega)];exact hfr.dB j
  ·intro b j hb;obtain⟨rfl,_,_⟩:=bey b j hb;exact hfr.box
  ·intro b j hb;obtain⟨rfl,_,h2⟩:=bey b j hb;refine⟨by rw[cC g.new,List.getElem?_eq_getElem h2];rfl,?_⟩;rw[gV g.new]
   cases hq:(decide (f.1≤j)&&decide (j<f.2)) with
   |false=>rfl
   |true=>simp at hq;exact absurd hq (hf j h2)
theorem qG (h : SR X N G st a w) {w' : World} {o : aS} {ro : Obj} (g : dV w w' ro) {k : Nat} {v : IV} {c : cV} {st' : St} (hr : ga st k o = some (v, c, st')) (hro : eK X G o ro) (hne : o ≠ .none)
    (hown : ∀ (cs : List IV) (cp : List cV) (off sz : Nat), o = .cells cs cp → cp[off]? = some (.own sz) → cs[off]? = some .aa) :
    ∃ G', OR X N G w st' a v c (.pointer (some ⟨w.heap.size, 0, none⟩)) G' w' := by
  unfold ga at hr;split at hr
  · rename_i hnone;simp only [Option.some.injEq, Prod.mk.injEq] at hr;obtain ⟨rfl, rfl, rfl⟩ := hr;have hfr := h.wf.fresh (Nat.le_refl _)
    have hk : G.lb k = none := by
      cases e : G.lb k with
      | none => rfl
      | some b => exact absurd hnone (h.dO k b e)
    have h1 := h.grow g;refine ⟨{ G with lb := fun j => if j = k then some w.heap.size else G.lb j }, ?_⟩
    have m : ∀ j b, G.lb j = some b → (if j = k then some w.heap.size else G.lb j) = some b := fun j b e => by
      rw [if_neg]; · exact e
      · rintro rfl; rw [hk] at e; cases e
    have mo : ∀ {o ro}, eK X G o ro → eK X { G with lb := fun j => if j = k then some w.heap.size else G.lb j } o ro := fun h =>
      eK.mono (G := G) (G' := { G with lb := fun j => if j = k then some w.heap.size else G.lb j }) (fun _ _ _ h => h) (fun _ _ h => h) h
    have hbox : ∀ b, Gh.boxed { G with lb := fun j => if j = k then some w.heap.size else G.lb j } b → G.boxed b ∨ b = w.heap.size := by
      rintro b (⟨id, e⟩ | ⟨j, e⟩)
      · exact .inl (.inl ⟨id, e⟩)
      · simp only at e;split at e
        · simp only [Option.some.injEq] at e; exact .inr e.symm
        · exact .inl (.inr ⟨j, e⟩)
    refine { sr := ?_, sv := ⟨w.heap.size, by simp, rfl⟩, step := ?_, free := fun sz e => by cases e }
    · refine { size := h1.size, env := ?_, own := h1.own, lk := ?_, lb := ?_, dE := ?_, dO := ?_, mr := ?_, wf := ?_ }
      · intro i v c e;exact ⟨SV.mono (G := G) (G' := { G with lb := fun j => if j = k then some w.heap.size else G.lb j }) (fun _ _ _ h => h) (fun _ _ h => h) m (h1.env i v c e).1, (h1.env i v c e).2⟩
      · intro i l hm;have := h1.lk i l hm
        cases l with
        | L k' off => obtain ⟨b, e1, e2⟩ := this; exact ⟨b, m _ _ e1, e2⟩
        | _ => exact this
      · intro k' hn;rw [cg] at hn ⊢;by_cases e : k = k'
        · subst e;rw [if_pos rfl];exact ⟨w.heap.size, ro, by simp, g.new, mo hro⟩
        · rw [if_neg e] at hn ⊢;obtain ⟨b, ro', e1, e2, e3⟩ := h1.lb k' hn;exact ⟨b, ro', m _ _ e1, e2, mo e3⟩
      · intro k' cs cp off sz e1 e2 b r e3 e4;rw [cg] at e1;by_cases e : k = k'
        · subst e;rw [if_pos rfl] at e1;simp only [if_true, Option.some.injEq] at e3;subst e3;have hnil := hown cs cp off sz e1 e2;subst e1
          cases hro with
          | cells _ _ rc t f g1 g2 g3 =>
            rw [cC g.new] at e4;obtain ⟨r', hr', hvr⟩ := g1.get hnil;rw [e4] at hr';simp only [Option.some.injEq] at hr';subst hr'
            cases hvr
            intro b o sp len cap q
            cases q
        · rw [if_neg e] at e1;simp only at e3;rw [if_neg (fun q => e q.symm)] at e3;exact h1.dE k' cs cp off sz e1 e2 b r e3 e4
      · intro k' b e;rw [cg];split
        · exact hne
        · rename_i q;simp only at e;rw [if_neg (fun q' => q q'.symm)] at e;exact h1.dO k' b e
      · exact { bx := fun id hn => by obtain ⟨b, ro, e1, e2, e3⟩ := h1.mr.bx id hn; exact ⟨b, ro, e1, e2, mo e3⟩, own := h1.mr.own, kY := h1.mr.kY, cd := h1.mr.cd }
      · refine { dB := h1.wf.dB, inj := h1.wf.inj, ja := ?_, fB := ?_, eY := ?_, ew := ?_, eU := ?_, fL := h1.wf.fL, dR := h1.wf.dR, gj := h1.wf.gj, iD := ?_ }
        · intro i j b e1 e2;simp only at e1 e2;split at e1 <;> split at e2
          · subst_vars; rfl
          · simp only [Option.some.injEq] at e1; subst e1; exact absurd (.inr ⟨j, e2⟩) hfr.box
          · simp only [Option.some.injEq] at e2; subst e2; exact absurd (.inr ⟨i, e1⟩) hfr.box
          · exact h1.wf.ja i j b e1 e2
        · intro i j b e1 e2;simp only at e2;split at e2
          · simp only [Option.some.injEq] at e2; subst e2; exact hfr.box (.inl ⟨i, e1⟩)
          · exact h1.wf.fB i j b e1 e2
        · intro b q;rcases hbox b q with q | rfl
          · exact h1.wf.eY b q
          · have := g.size; omega
        · intro b o q;rcases hbox b q with q | rfl
          · exact h1.wf.ew b o q
          · exact hfr.dB o
        · intro b o q;rcases hbox b q with q | rfl
          · exact h1.wf.eU b o q
          · exact hfr.ow o
        · intro g' row hr;exact VR.mono (G := G) (G' := { G with lb := fun j => if j = k then some w.heap.size else G.lb j }) (fun _ _ _ h => h) (fun _ _ h => h) (h1.wf.iD g' row hr)
    · have s := Step.grow (G := G) g
      exact { os := s.os, tape := s.tape, output := s.output, size := s.size, dB := s.dB, bx := s.bx, other := s.other, cells := s.cells, eW := s.eW, fY := s.fY, gm := s.gm, loop := s.loop, cd := rfl, gj := rfl,
              fh := fun b hb q => by
                rcases q with ⟨id, e, e'⟩ | ⟨j, e⟩
                · exact .inl ⟨id, e, e'⟩
                · simp only at e;split at e
                  · simp only [Option.some.injEq] at e; omega
                  · exact .inr ⟨j, e⟩ }
  · cases hr
theorem mg (h:SR X N G st a w) {w':World}{o:aS}{ro:Obj}(g:dV w w' ro) {v0 v:IV}{c:cV}{st':St}(hr:fK st o v0=some (v,c,st')) (hro:eK X G o ro) (hne:o ≠ .none)
  (hown:∀(cs:List IV) (cp:List cV) (off sz:Nat),o=.cells cs cp→cp[off]?=some (.own sz)→cs[off]?=some .aa) {r:Value}
  (hv0:∀G':Gh,G'.bx st.m.size=some w.heap.size→SV G' v0 r) :
  ∃G',OR X N G w st' a v c r G' w':=by
 unfold fK at hr;simp only[IM.push,aK,Option.some.injEq,Prod.mk.injEq] at hr;obtain⟨rfl,rfl,rfl⟩:=hr;have hfr:=h.wf.fresh (Nat.le_refl _);have h1:=h.grow g;obtain⟨G',hG'⟩:∃G':Gh,G'={ G with bx:=fun j=>if j=st.m.size then some w.heap.size else G.bx j }:=⟨_,rfl⟩
 have m:∀j b,G.bx j=some b→G'.bx j=some b:=fun j b e=>by
  subst hG';simp only;rw[if_neg];· exact e
  ·rintro rfl;have:=h.mr.kY _ _ e;omega
 have mi:∀b o v,G.dB b o=some v→G'.dB b o=some v:=by subst hG';exact fun _ _ _ h=>h
 have mo:∀{o ro},eK X G o ro→eK X G' o ro:=fun h=>h.mono mi m;have hnew:G'.bx st.m.size=some w.heap.size:=by subst hG';simp
 have hold:∀j b,G'.bx j=some b→(j=st.m.size∧b=w.heap.size)∨G.bx j=some b:=by
  intro j b e;subst hG';simp only at e;split at e
  ·rename_i q;simp only[Option.some.injEq] at e;exact .inl ⟨q,e.symm⟩
  ·exact .inr e
 have hlb:G'.lb=G.lb:=by subst hG';rfl
 have hHid:G'.cd=G.cd:=by subst hG';rfl
 have hOld:G'.gj=G.gj:=by subst hG';rfl
 have hbox:∀b,G'.boxed b→G.boxed b∨b=w.heap.size:=by
  rintro b (⟨id,e⟩ | ⟨j,e⟩)
  ·rcases hold id b e with ⟨_,q⟩ | q
   ·exact .inr q
   ·exact .inl (.inl ⟨id,q⟩)
  ·rw[hlb] at e;exact .inl (.inr ⟨j,e⟩)
 have hget:∀j,IM.get { st.m with bs:=st.m.bs++[o]} j=if j=st.m.size then o else st.m.get j:=by
  intro j;simp only[IM.get,IM.size,List.getD_eq_getElem?_getD];split
  ·rename_i q;subst q;simp
  ·rename_i q;rcases Nat.lt_or_ge j st.m.bs.length with q2 | q2
   ·rw[List.getElem?_append_left q2]
   ·rw[List.getElem?_eq_none (by simp;omega),List.getElem?_eq_none q2]
 have hOw:∀{l sz r},gR G l sz r→gR G' l sz r:=by subst hG';exact fun h=>h
 refine⟨G',{ sr:=?_,sv:=hv0 G' hnew,step:=?_,free:=fun sz e=>by cases e }⟩
 ·refine { size:=h1.size,env:=?_,own:=fun i v sz e=>hOw (h1.own i v sz e),lk:=?_,lb:=?_,dE:=?_,dO:=?_,mr:=?_,wf:=?_ }
  ·intro i v c e;exact⟨(h1.env i v c e).1.mono mi m (by rw[hlb];exact fun _ _ h=>h),(h1.env i v c e).2⟩
  ·intro i l hm;have:=h1.lk i l hm
   cases l with
   |B k' off=>obtain⟨b,e1,e2⟩:=this;exact⟨b,m _ _ e1,e2⟩
   |L k' off=>obtain⟨b,e1,e2⟩:=this;exact⟨b,by rw[hlb];exact e1,e2⟩
   |slot j=>exact this
   |marked=>exact fun b o sp len cap e=>(this b o sp len cap e).same hOld
  ·intro k hn;obtain⟨b,ro',e1,e2,e3⟩:=h1.lb k hn;exact⟨b,ro',by rw[hlb];exact e1,e2,mo e3⟩
  ·intro k cs cp off sz e1 e2 b r e3 e4;rw[hlb] at e3;exact hOw (h1.dE k cs cp off sz e1 e2 b r e3 e4)
  ·intro k b e;rw[hlb] at e;exact h1.dO k b e
  ·refine { bx:=?_,own:=?_,kY:=?_,cd:=?_ }
   ·intro id hn;rw[hget] at hn ⊢;split at hn
    ·rename_i q;subst q;rw[if_pos rfl];exact⟨w.heap.size,ro,hnew,g.new,mo hro⟩
    ·rename_i q;rw[if_neg q];obtain⟨b,ro',e1,e2,e3⟩:=h1.mr.bx id hn;exact⟨b,ro',m _ _ e1,e2,mo e3⟩
   ·intro id cs cp off sz e1 e2 b r e3 e4;rw[hget] at e1;split at e1
    ·rename_i q;subst q;rw[hnew] at e3;simp only[Option.some.injEq] at e3;subst e3;have hnil:=hown cs cp off sz e1 e2;subst e1
     cases hro with
     |cells _ _ rc t f g1 g2 g3 =>
      rw[cC g.new] at e4;obtain⟨r',hr',hvr⟩:=g1.get hnil;rw[e4] at hr';simp only[Option.some.injEq] at hr';subst hr'
      cases hvr
      intro b o sp len cap q
      cases q
    ·rename_i q;rcases hold id b e3 with ⟨q2,_⟩ | e3
     ·exact absurd q2 q
     ·exact hOw (h1.mr.own id cs cp off sz e1 e2 b r e3 e4)
   ·intro id b e;simp only[IM.size,List.length_append,List.length_singleton];rcases hold id b e with ⟨rfl,_⟩ | e
    ·simp[IM.size]
    ·have:=h1.mr.kY id b e;simp only[IM.size] at this;omega
   ·intro id e;rw[hHid] at e;obtain⟨q1,q2⟩:=h.mr.cd id e;rw[hget,if_neg (by omega)];exact⟨by simp only[IM.size,List.length_append,List.length_singleton] at q1 ⊢;omega,q2⟩
  ·refine { dB:=?_,inj:=?_,ja:=by rw[hlb];exact h1.wf.ja,fB:=?_,eY:=?_,ew:=?_,eU:=?_,fL:=?_,dR:=?_,gj:=by rw[hOld];exact h1.wf.gj,iD:=fun g' row hr=>(h1.wf.iD g' row hr).mono mi m }
   ·intro b o v e;refine h1.wf.dB b o v ?_;subst hG';exact e
   ·intro i j b e1 e2;rcases hold i b e1 with ⟨rfl,rfl⟩ | e1<;>rcases hold j _ e2 with ⟨rfl,e⟩ | e2
    ·rfl
    ·exact absurd (.inl ⟨j,e2⟩) hfr.box
    ·subst e;exact absurd (.inl ⟨i,e1⟩) hfr.box
    ·exact h1.wf.inj i j b e1 e2
   ·intro i k b e1 e2;rw[hlb] at e2;rcases hold i b e1 with ⟨rfl,rfl⟩ | e1
    ·exact hfr.box (.inr ⟨k,e2⟩)
    ·exact h1.wf.fB i k b e1 e2
   ·intro b q;rcases hbox b q with q | rfl
    ·exact h1.wf.eY b q
    ·have:=g.size;omega
   ·intro b o q;have e:G'.dB b o=G.dB b o:=by subst hG';rfl
    rw[e];rcases hbox b q with q | rfl
    ·exact h1.wf.ew b o q
    ·exact hfr.dB o
   ·intro b o q;have e:G'.ow b o=G.ow b o:=by subst hG';rfl
    rw[e];rcases hbox b q with q | rfl
    ·exact h1.wf.eU b o q
    ·exact hfr.ow o
   ·intro b o l e;subst hG';exact h1.wf.fL b o l e
   ·intro b o l e;subst hG';exact h1.wf.dR b o l e
 ·have s:=Step.grow (G:=G) g;refine { os:=s.os,tape:=s.tape,output:=s.output,size:=s.size,dB:=mi,bx:=m,other:=s.other,cells:=s.cells,eW:=?_,fY:=?_,gm:=?_,loop:=s.loop,fh:=?_,cd:=hHid,gj:=hOld }
  ·intro b o v hb nb e;refine s.eW b o v hb nb ?_;subst hG';exact e
  ·intro b o l hb e;refine s.fY b o l hb ?_;subst hG';exact e
  ·intro b hb q;rcases q with ⟨id,e,e'⟩ | ⟨j,e⟩
   ·rcases hold id b e with ⟨_,q⟩ | q
    ·omega
    ·exact .inl ⟨id,q,by rw[hHid] at e';exact e'⟩
   ·rw[hlb] at e;exact .inr ⟨j,e⟩
  ·intro id b e;rcases hold id b e with ⟨_,rfl⟩ | e
   ·exact .inr (Nat.le_refl _)
   ·exact .inl e
end Go.Idl
namespace Go.Idl
open Classical
variable {X:Ctx}{N:Nat}{G:Gh}{st:St}{a:Act}{w:World}
structure Src (P:Program) (w:World) (size n:Nat) (x:Value) (news:List Value):Prop where
 len:∀w',(Builtin.lenOf x).run P w'=.ok n w'
 cells:(Builtin.firstCells size n x).run P w=.ok ⟨news⟩ w
 drew:(Builtin.firstCells size n x).run P w.drew=.ok ⟨news⟩ w.drew
 count:news.length=n*size
theorem pW {P:Program}{u:TypeId}(hu:P.underlying u=some .string∨∃e',P.underlying u=some (.slice e')) (w:World) :
  ((do pure ((←underlying u) matches .int _):Sem Bool)).run P w=.ok false w:=by
 rcases hu with hu | ⟨e',hu⟩<;>simp[aN hu]
theorem nv {P:Program}{t u e ty:TypeId}{d n0 bytes ag} (ht:P.underlying t=some (.slice e)) (hu:P.underlying u=some .string∨∃e',P.underlying u=some (.slice e')) (hs:kW P e d n0 bytes ag)
  {b o sLen sCap n:Nat}{x:Value}{news:List Value}(hx:Src P w n0 n x news) (hroom:sLen+n≤sCap)
  (hc:∀j,j<news.length→(w.cell? ⟨b,o+sLen*n0+j,none⟩).isSome=true) (hf:∀j,j<news.length→w.frozen? ⟨b,o+sLen*n0+j,none⟩=false) (h1:∀v∈news,v.oneCell'=true) :
  (Builtin.append_ #[t,u] ty #[.slice (some ⟨b,o,none⟩) sLen sCap,x]).run P w=.ok (.slice (some ⟨b,o,none⟩) (sLen+n) sCap) (w.setCells b (o+sLen*n0) news):=by
 have hst:=run_storeCells_cells (P:=P) b (o+sLen*n0) news 0 w (by simpa using hc) (by simpa using hf) h1;simp only[Nat.add_zero] at hst;have hz:=pW (P:=P) hu w;rcases hu with hu | ⟨e',hu⟩ <;>
  simp[Builtin.append_,aN ht,aN hu,dX hs,hx.len,hroom,hx.cells,eQ,hst]
theorem tj {P:Program}{t u e ty:TypeId}{d n0 bytes ag} (ht:P.underlying t=some (.slice e)) (hu:P.underlying u=some .string∨∃e',P.underlying u=some (.slice e')) (hs:kW P e d n0 bytes ag)
  {x:Value}{news:List Value}(hx:Src P w n0 0 x news) :
  (Builtin.append_ #[t,u] ty #[.slice none 0 0,x]).run P w=.ok (.slice none 0 0) w:=by
 rcases hu with hu | ⟨e',hu⟩ <;>
  simp[Builtin.append_,aN ht,aN hu,dX hs,hx.len,hx.cells]
theorem tp {P:Program}{t u e ty:TypeId}{d n0 bytes ag} (ht:P.underlying t=some (.slice e)) (hu:P.underlying u=some .string∨∃e',P.underlying u=some (.slice e')) (hs:kW P e d n0 bytes ag)
  {a:Addr}{x:Value}(hx:Src P w n0 0 x []) :
  (Builtin.append_ #[t,u] ty #[.slice (some a) 0 0,x]).run P w=.ok (.slice (some a) 0 0) w:=by
 have hz:=pW (P:=P) hu w;rcases hu with hu | ⟨e',hu⟩ <;>
  simp[Builtin.append_,aN ht,aN hu,dX hs,hx.len,hx.cells,storeCells]
theorem nu {P:Program}{t u e ty:TypeId}{d n0 bytes ag} (ht:P.underlying t=some (.slice e)) (hu:P.underlying u=some .string∨∃e',P.underlying u=some (.slice e')) (hs:kW P e d n0 bytes ag)
  {z:Value}{i:TypeInfo}(hi:P.info? e=some i) (hz:i.zero=some z) (hb0:bytes≠0)
  {base:Option Addr}{sLen sCap n:Nat}{x:Value}{news olds:List Value}(hx:Src P w n0 n x news) (hg:sCap<sLen+n)
  (hold:(Builtin.firstCells n0 sLen (.slice base sLen sCap)).run P w.drew=.ok ⟨olds⟩ w.drew) (hlen:(sLen+n)*bytes≤aH) :
  ∃cap,sLen+n≤cap∧(Builtin.append_ #[t,u] ty #[.slice base sLen sCap,x]).run P w =
   .ok (.slice (some ⟨w.heap.size,0,none⟩) (sLen+n) cap) (w.drew.alloc (.cells ⟨olds++news++(Builtin.zeroCells z.cells (cap-(sLen+n))).toList⟩ e)):=by
 have hib:i.bytes=bytes∧i.size=n0:=by obtain⟨i',h1,h2,h3⟩:=hs.info;rw[hi] at h1;simp only[Option.some.injEq] at h1;subst h1;exact⟨h3,h2⟩
 have hn:¬(sLen+n≤sCap):=by omega
 have hle:sLen+n≤aH:=by have:sLen+n≤(sLen+n)*bytes:=Nat.le_mul_of_pos_right _ (Nat.pos_of_ne_zero hb0);omega
 have h63':¬(9223372036854775807<((sLen:Int)+(n:Int))):=by unfold aH at hle;omega
 have hfit:Builtin.nextslicecap (sLen+n) sCap*bytes≤281474976710656:=growslice_fits hg (by unfold aH at hlen;omega);have h48':¬(281474976710656<Builtin.nextslicecap (sLen+n) sCap*bytes):=by omega
 refine⟨grownCap w (sLen+n) sCap e,grownCap_ge _ _ _ _,?_⟩;rcases hu with hu | ⟨e',hu⟩
 all_goals
  simp[Builtin.append_,aN ht,aN hu,sizeOf,typeInfo,zeroValue,hi,hz,hib.1,hib.2,hx.len,hn,hb0,h63',h48',Question.forced,hx.drew,hold,newRow,grownCap];congr 2;apply Array.ext';simp[List.append_assoc]
end Go.Idl
namespace Go.Idl
open Classical
variable {X:Ctx}{N:Nat}{G:Gh}{st:St}{a:Act}{w:World}
def gy (P:Program) (o:Oper) (ρ:Operand→Value) (w:World) (r:Value) (w':World):Prop :=
 (execOp ρ o).run P w=.ok (.value r) w'∨((execOp ρ o).run P w=.ok .skip w'∧r=undef)
theorem OR.same (h:SR X N G st a w) {v:IV}{r:Value}(hv:SV G v r):OR X N G w st a v .any r G w :=
 ⟨h,hv,Step.refl _ _,fun _ e=>by cases e⟩
theorem SV.undef (r:Value):SV G .undef r:=VR.undef r
theorem CY (h:SR X N G st a w) {i sz:Nat}(hc:c8 st.env i=.own sz) {st':St}(hd:st.drop (.slot i)=some st') {v:IV}(hv:SV G v (a.eval (.tmp i))) :
  ∃G',OR X N G w st' a v (.own sz) (a.eval (.tmp i)) G' w:=by
 obtain⟨h1,h2,h3,_⟩:=qs h (l:=.slot i) (sz:=sz) hc (r:=a.tmps.getD i undef) rfl hd;refine⟨_,h1,?_,h2,fun sz' e=>by cases e;exact h3⟩;exact SV.mono (G:=G) (G':=G.clear _ _) (fun _ _ _ h=>h) (fun _ _ h=>h) (fun _ _ h=>h) hv
theorem CL (h:SR X N G st a w) (call:bW) {x:Operand}{x':Arg}{xf lk:Bool}(hx:fg X.rows x x') {v:IV}{c:cV}{st':St}(hr:(IK.mv x' xf lk).run call st=some (v,c,st'))
  (o:Oper) (ho:o.op=.move x∨o.op=.assign x):∃r G',gy X.P o a.eval w r w∧OR X N G w st' a v c r G' w:=by
 have hrun:(execOp a.eval o).run X.P w=.ok (.value (a.eval x)) w:=by rcases ho with ho | ho<;>simp[execOp,ho]
 simp only[IK.run] at hr;split at hr
 ·cases hr
 ·rename_i v0 e0;have hv:=h.rd hx e0;split at hr
  ·simp only[Option.some.injEq,Prod.mk.injEq] at hr;obtain⟨rfl,rfl,rfl⟩:=hr;exact⟨_,G,.inl hrun,OR.same h hv⟩
  ·rename_i i
   cases hx with
   |tmp =>
    split at hr
    ·split at hr
     ·rename_i sz hc;split at hr
      ·rename_i st1 hd;simp only[Option.some.injEq,Prod.mk.injEq] at hr;obtain⟨rfl,rfl,rfl⟩:=hr;obtain⟨G',hG⟩:=CY h hc hd hv;exact⟨_,G',.inl hrun,hG⟩
      ·cases hr
     ·simp only[Option.some.injEq,Prod.mk.injEq] at hr;obtain⟨rfl,rfl,rfl⟩:=hr;exact⟨_,G,.inl hrun,OR.same h hv⟩
    ·simp only[Option.some.injEq,Prod.mk.injEq] at hr;obtain⟨rfl,rfl,rfl⟩:=hr;exact⟨_,G,.inl hrun,OR.same h hv⟩
theorem CD (h:SR X N G st a w) {t:TypeId}{d n bytes ag} (ht:kW X.P t d n bytes ag) {p v:IV}(hl:dU st.lb st.m ag n p=some v) {rp:Value}(hp:SV G p rp) :
  ∃r,(Instr.loadAt t rp).run X.P w=.ok r w∧SV G v r∧(ag=false→∃b o,rp=.pointer (some ⟨b,o,none⟩)∧w.cell? ⟨b,o,none⟩=some r):=by
 unfold dU at hl
 cases ag with
 |true =>
  simp only[aK] at hl
  cases e:bu st.lb st.m p n with
  |none=>rw[e] at hl;cases hl
  |some cs =>
   rw[e] at hl;simp only[Option.some.injEq] at hl;subst hl;obtain⟨b,o,rs,rfl,h1,h2,h3⟩:=ir h e hp;have hld:(loadCells ⟨b,o,none⟩ n).run X.P w=.ok rs.toArray w:=by have:=run_loadCells_list (P:=X.P) w ⟨b,o,none⟩ rs (fun j v e=>by rw[eQ];exact h3 j v e);rw[h1.1,h2] at this;exact this
   exact⟨.agg rs.toArray,by simp[Instr.loadAt,Instr.sureAddr,loadVar,kx ht,dX ht,hld],VR.B1 h1,fun e=>by cases e⟩
 |false =>
  simp only at hl;split at hl
  ·rename_i v' e;simp only[Option.some.injEq] at hl;subst hl;obtain⟨b,o,rs,rfl,h1,h2,h3⟩:=ir h e hp;obtain⟨r,rs',rfl,hv,hs⟩:=h1.jw;have hc:=h3 0 r rfl;rw[Nat.add_zero] at hc;exact⟨r,by simp[Instr.loadAt,Instr.sureAddr,loadVar,kx ht,hc],SV.of hv,fun _=>⟨b,o,rfl,hc⟩⟩
  ·cases hl
theorem Bn {P:Program}{t:TypeId}{d n bytes ag} (ht:kW P t d n bytes ag) {b o:Nat}{r:Value}(hn:r.cells.size=n) (hs:(storeCells ⟨b,o,none⟩ r.cells.toList).run P w=.ok () (w.setCells b o r.cells.toList)) :
  (Instr.storeAt t (.pointer (some ⟨b,o,none⟩)) r).run P w=.ok () (w.setCells b o r.cells.toList):=by
 simp[Instr.storeAt,Instr.sureAddr,storeVar,dX ht,hn,hs]
theorem lE {v:IV}{n:Nat}(h:aC v.cells=some n):v.nd=false∧v.jO=false:=by
 cases v<;>first | exact⟨rfl,rfl⟩ | (simp[IV.cells,aC,IV.refs,IV.plain] at h)
theorem Dn {n:Nat}{p:IV}{vs:List IV}{c:cV}{st':St}(hs:bK st n p vs c=some st'):∃k,aC vs=some k:=by
 unfold bK at hs;split at hs
 ·cases hs
 ·split at hs
  ·split at hs
   ·rename_i h;exact⟨_,h⟩
   ·cases hs
  ·split at hs
   ·rename_i h;exact⟨_,h⟩
   ·cases hs
  ·cases hs
theorem tw (h:SR X N G st a w) {t:TypeId}{d n bytes ag} (ht:kW X.P t d n bytes ag) {p v:IV}{c:cV}{st':St}(hs:bK st n p v.cells c=some st') {rp r:Value}(hp:SV G p rp) (hv:SV G v r)
  (hc:∀sz,c=.own sz→((∃row len,v=.sl row len)∨v=.aa)∧∀l,Lp p=some l→gR G l sz r) :
  ∃w',(Instr.storeAt t rp r).run X.P w=.ok () w'∧SR X N G st' a w'∧Step G w G w':=by
 obtain⟨k,hk⟩:=Dn hs;obtain⟨hu,hl⟩:=lE hk;have hcs:=IV.ot (hv.vr hl) hu;obtain⟨b,o,rfl,h1,h2,h3,h4⟩:=r8 h hs hp hcs (fun sz e=>by
  obtain⟨q1,q2⟩:=hc sz e;refine⟨r,?_,q2⟩;rcases q1 with ⟨row,len,rfl⟩ | rfl<;>cases hv<;>rfl)
 refine⟨_,Bn ht (by have:=hcs.1;simpa[h1] using this) ?_,h3,h4⟩;rcases h2 w with h2 | h2
 ·exact h2
 ·exact absurd rfl h2
theorem Dp (h:SR X N G st a w) (call:bW) {t:TypeId}{d n bytes ag} {x y:Operand}{x' y':Arg}{xf:Bool}(ht:kW X.P t d n bytes ag) (hx:fg X.rows x x') (hy:fg X.rows y y') {v:IV}{c:cV}{st':St}
  (hr:(IK.store n x' y' xf).run call st=some (v,c,st')) (o:Oper) (ho:o.op=.store t x y):∃r w' G',gy X.P o a.eval w r w'∧OR X N G w st' a v c r G' w':=by
 have fin:∀{w':World},(Instr.storeAt t (a.eval x) (a.eval y)).run X.P w=.ok () w'→gy X.P o a.eval w undef w':=fun h1=>.inr ⟨by simp[execOp,ho,h1],rfl⟩;simp only[IK.run] at hr;split at hr
 ·rename_i pa v0 e1 e2;have hp:=h.rd hx e1;have hv:=h.rd hy e2;split at hr
  ·rename_i i;split at hr
   ·rename_i sz hc;split at hr
    ·rename_i st1 hd;split at hr
     ·rename_i st2 hs;simp only[Option.some.injEq,Prod.mk.injEq] at hr;obtain⟨rfl,rfl,rfl⟩:=hr
      cases hy with
      |tmp =>
       obtain⟨h1,h2,h3,_⟩:=qs h (l:=.slot i) (sz:=sz) hc (r:=a.eval (.tmp i)) rfl hd;obtain⟨l,hl⟩:∃l,l=(Lp pa).getD .marked:=⟨_,rfl⟩
       have h4:=h1.take h3 l;have hp':SV ((G.clear (a.eval (.tmp i)) sz).take (a.eval (.tmp i)) sz l) pa (a.eval x) :=
        SV.take (SV.mono (G:=G) (G':=G.clear _ _) (fun _ _ _ h=>h) (fun _ _ h=>h) (fun _ _ h=>h) hp)
       have hv':SV ((G.clear (a.eval (.tmp i)) sz).take (a.eval (.tmp i)) sz l) v0 (a.eval (.tmp i)) :=
        SV.take (SV.mono (G:=G) (G':=G.clear _ _) (fun _ _ _ h=>h) (fun _ _ h=>h) (fun _ _ h=>h) hv)
       obtain⟨w',h5,h6,h7⟩:=tw h4 ht hs hp' hv' (fun sz' e=>by
        unfold ft at e;refine⟨?_,fun l' hl'=>?_⟩
        ·split at e
         ·exact .inl ⟨_,_,rfl⟩
         ·exact .inr rfl
         ·cases e
        ·have:sz'=sz:=by split at e<;>cases e<;>rfl
         subst this;have:l=l':=by rw[hl,hl'];rfl
         subst this;intro b o' sp len cap e';refine⟨h3.spot b o' sp len cap e',fun j hj1 hj2=>?_⟩;simp only[Gh.take];rw[if_pos ⟨o',sp,len,cap,e',hj1,hj2⟩])
       exact⟨undef,w',_,fin h5,h6,SV.undef _,((h2.take h3 l).trans h7),fun _ e=>by cases e⟩
     ·cases hr
    ·cases hr
   ·split at hr
    ·rename_i st2 hs;simp only[Option.some.injEq,Prod.mk.injEq] at hr;obtain⟨rfl,rfl,rfl⟩:=hr;obtain⟨w',h5,h6,h7⟩:=tw h ht hs hp hv (fun _ e=>by cases e);exact⟨undef,w',G,fin h5,h6,SV.undef _,h7,fun _ e=>by cases e⟩
    ·cases hr
  ·split at hr
   ·rename_i st2 hs;simp only[Option.some.injEq,Prod.mk.injEq] at hr;obtain⟨rfl,rfl,rfl⟩:=hr;obtain⟨w',h5,h6,h7⟩:=tw h ht hs hp hv (fun _ e=>by cases e);exact⟨undef,w',G,fin h5,h6,SV.undef _,h7,fun _ e=>by cases e⟩
   ·cases hr
 ·cases hr
theorem jC:∀(cs:List IV) (cp:List cV) (off sz:Nat),(bp cs cp)[off]?=some (.own sz)→cs[off]?=some .aa
 |[],_,off,sz,h=>by simp[bp] at h
 |v::vs,[],off,sz,h=>by
  cases off with
  |zero=>simp[bp] at h
  |succ off=>simp only[bp,List.getElem?_cons_succ] at h ⊢;exact jC vs [] off sz h
 |v::vs,c::cs,off,sz,h=>by
  cases off with
  |zero =>
   simp only[bp,List.getElem?_cons_zero,Option.some.injEq] at h ⊢;split at h
   ·rfl
   ·cases h
  |succ off=>simp only[bp,List.getElem?_cons_succ] at h ⊢;exact jC vs cs off sz h
theorem mT:∀(cs:List IV) (cp:List cV),(bp cs cp).length=cs.length
 |[],_=>by simp[bp]
 |v::vs,[]=>by simp[bp,mT vs []]
 |v::vs,c::cs=>by simp[bp,mT vs cs]
theorem eK.new {cs:List IV}{rc:List Value}(t:TypeId) (cp:List cV) (h:c9 G cs rc):eK X G (.cells cs (bp cs cp)) (.cells ⟨rc⟩ t (0,0)) :=
 .cells _ _ _ _ _ h (fun i _ q=>by omega) (mT _ _)
theorem EX {P:Program}{t:TypeId}{zero:List IV}(hz:jD P t zero) (w:World):∃rc,(Instr.alloc t true (.tuple #[])).run P w=.ok (.pointer (some ⟨w.heap.size,0,none⟩)) (w.alloc (.cells ⟨rc⟩ t))∧∀G,c9 G zero rc:=by obtain⟨i,v,h1,h2,h3,h4,h5⟩:=hz;exact⟨v.cells.toList,by simp[Instr.alloc,zeroValue,typeInfo,h1,h2,newVar,newRow],h5⟩
theorem tD (h:SR X N G st a w) (call:bW) {t:TypeId}{zero:List IV}(hz:jD X.P t zero) {k:IK}(hk:(∃j cp,k=.bX j zero cp)∨∃cp,k=.iv zero cp) {v:IV}{c:cV}{st':St}
  (hr:k.run call st=some (v,c,st')) (o:Oper) (ho:o.op=.alloc t):∃r w' G',gy X.P o a.eval w r w'∧OR X N G w st' a v c r G' w':=by
 obtain⟨rc,h1,h2⟩:=EX hz w;have hrun:gy X.P o a.eval w (.pointer (some ⟨w.heap.size,0,none⟩)) (w.alloc (.cells ⟨rc⟩ t)):=.inl (by simp[execOp,ho,h1]);rcases hk with ⟨j,cp,rfl⟩ | ⟨cp,rfl⟩
 ·obtain⟨G',hG⟩:=qG h (dV.alloc w (.cells ⟨rc⟩ t)) (by simpa only[IK.run] using hr) (eK.new t cp (h2 G)) (by simp) (fun cs cp' off sz e1 e2=>by cases e1;exact jC _ _ _ _ e2);exact⟨_,_,G',hrun,hG⟩
 ·obtain⟨G',hG⟩:=mg (v0:=.pB st.m.size 0) h (dV.alloc w (.cells ⟨rc⟩ t)) (by simpa only[IK.run] using hr) (eK.new t cp (h2 G)) (by simp) (fun cs cp' off sz e1 e2=>by cases e1;exact jC _ _ _ _ e2)
   (r:=.pointer (some ⟨w.heap.size,0,none⟩)) (fun G' e=>VR.pB _ _ _ e)
  exact⟨_,_,G',hrun,hG⟩
theorem yV (h:SR X N G st a w) (call:bW) {t:TypeId}{n:Nat}{x:Operand}{x':Arg}(hx:fg X.rows x x') {k:IK}(hk:(∃j,k=.f5 j n x')∨k=.nZ n x') {v:IV}{c:cV}{st':St}
  (hr:k.run call st=some (v,c,st')) (o:Oper) (ho:o.op=.box t x):∃r w' G',gy X.P o a.eval w r w'∧OR X N G w st' a v c r G' w':=by
 have hrun:gy X.P o a.eval w (.pointer (some ⟨w.heap.size,0,none⟩)) (w.alloc (.cells (a.eval x).cells t)):=.inl (by simp[execOp,ho,Instr.box,newVar,newRow]);have hcell:∀{v0:IV}{q:Nat},SV G v0 (a.eval x)→aC v0.cells=some q→c9 G v0.cells (a.eval x).cells.toList:=fun hv hq =>
  IV.ot (hv.vr (lE hq).2) (lE hq).1
 rcases hk with ⟨j,rfl⟩ | rfl
 ·simp only[IK.run] at hr;split at hr
  ·rename_i v0 e;split at hr
   ·rename_i q hq;split at hr
    ·have hvs:=hcell (h.rd hx e) hq;obtain⟨G',hG⟩:=qG h (dV.alloc w (.cells (a.eval x).cells t)) hr (eK.new t [] hvs) (by simp) (fun cs cp' off sz e1 e2=>by cases e1;exact jC _ _ _ _ e2);exact⟨_,_,G',hrun,hG⟩
    ·cases hr
   ·cases hr
  ·cases hr
 ·simp only[IK.run] at hr;split at hr
  ·rename_i v0 e;split at hr
   ·rename_i q hq;split at hr
    ·have hvs:=hcell (h.rd hx e) hq;obtain⟨G',hG⟩:=mg (v0:=.pB st.m.size 0) h (dV.alloc w (.cells (a.eval x).cells t)) hr (eK.new t [] hvs) (by simp) (fun cs cp' off sz e1 e2=>by cases e1;exact jC _ _ _ _ e2)
      (r:=.pointer (some ⟨w.heap.size,0,none⟩)) (fun G' e=>VR.pB _ _ _ e)
     exact⟨_,_,G',hrun,hG⟩
    ·cases hr
   ·cases hr
  ·cases hr
end Go.Idl
namespace Go.Idl
open Classical
variable {X:Ctx}{N:Nat}{G:Gh}{st:St}{a:Act}{w:World}
theorem OR.after {G1:Gh}{w1:World}(s:Step G w G1 w1) {st':St}{v:IV}{c:cV}{r:Value}{G':Gh}{w':World}(h:OR X N G1 w1 st' a v c r G' w'):OR X N G w st' a v c r G' w' :=
 ⟨h.sr,h.sv,s.trans h.step,fun sz e=>by
  have f:=h.free sz e;refine { spot:=f.spot,ow:=f.ow,dB:=f.dB,box:=f.box,cell:=f.cell,xm:=?_ };intro b j hb;rcases f.xm b j hb with q | q
  ·exact .inl (Nat.le_trans s.size q)
  ·by_cases hlt:b<w.heap.size
   ·obtain⟨l,hl⟩:=Option.isSome_iff_exists.1 q;exact .inr (s.fY b j l hlt hl)
   ·exact .inl (by omega)⟩
theorem kQ (zero:List IV):∀n,(dY zero n).length=n*zero.length
 |0=>by simp[dY]
 |n+1=>by simp[dY,kQ zero n,Nat.add_mul];omega
theorem C7 (zero:List IV):∀(n i:Nat),i<n*zero.length→(dY zero n)[i]?=zero[i%zero.length]?
 |0,i,h=>by simp at h
 |n+1,i,h=>by
  simp only[dY];by_cases hi:i<zero.length
  ·rw[List.getElem?_append_left hi,Nat.mod_eq_of_lt hi]
  ·rw[List.getElem?_append_right (by omega),C7 zero n (i-zero.length) (by rw[Nat.add_mul] at h;omega)];congr 1;exact (Nat.mod_eq_sub_mod (by omega)).symm
theorem xI {zero:List IV}{z:Array Value}(hz:c9 G zero z.toList) (len:Nat):c9 G (dY zero len) ((Array.range (len*z.size)).map (z[· % z.size]!)).toList:=by
 have hs:z.size=zero.length:=by rw[←hz.1];simp
 refine c9.ku (by simp[kQ,hs]) fun i v r e1 e2=>?_;have hi:i<len*z.size:=by have:=(List.getElem?_eq_some_iff.1 e2).1;simpa using this
 rw[C7 _ _ _ (by rw[←hs];exact hi)] at e1;simp[hi] at e2;have hm:i%z.size<z.size:=Nat.mod_lt _ (by
  rcases Nat.eq_zero_or_pos z.size with q | q
  ·rw[q] at hi;omega
  ·exact q)
 rw[hs] at hm;obtain⟨r',hr',hv⟩:=hz.get e1;rw[←hs] at hr';rw[←e2];have:z[i%z.size]! = r':=by
  have h1:z[i%z.size]?=some r':=by simpa using hr'
  obtain⟨h2,h3⟩:=Array.getElem?_eq_some_iff.1 h1;rw[getElem!_pos z _ h2,h3]
 rw[this];exact hv
theorem rG:∀(ps:List (Nat×Nat)) (vs cs out:List IV),dT cs ps vs=some out→out.length=cs.length
 |[],[],cs,out,h=>by simp only[dT,Option.some.injEq] at h;rw[h]
 |[],_::_,cs,out,h=>by simp[dT] at h
 |(off,n)::ps,[],cs,out,h=>by simp[dT] at h
 |(off,n)::ps,v::vs,cs,out,h=>by
  simp only[dT] at h;split at h
  ·rename_i hc;simp only[Bool.and_eq_true,decide_eq_true_eq] at hc;rw[rG ps vs _ out h,tX (by omega)]
  ·cases h
theorem qe {P:Program}{e:TypeId}{zero:List IV}(hz:jD P e zero):∃z:Value,(∀w,(zeroValue e).run P w=.ok z w)∧(∀G,c9 G zero z.cells.toList)∧z.cells.size=zero.length∧∃i,P.info? e=some i∧i.zero=some z:=by obtain⟨i,v,h1,h2,h3,h4,h5⟩:=hz;exact⟨v,fun w=>by simp[zeroValue,typeInfo,h1,h2],h5,by simpa using h3,i,h1,h2⟩
theorem jD.size {P:Program}{e:TypeId}{zero:List IV}(hz:jD P e zero) {d n b ag} (hs:kW P e d n b ag):zero.length=n:=by obtain⟨i,v,h1,h2,h3,h4,h5⟩:=hz;obtain⟨i',q1,q2,_⟩:=hs.info;rw[h1] at q1;simp only[Option.some.injEq] at q1;subst q1;omega
theorem ER {P:Program}{e:TypeId}{zero:List IV}(hz:jD P e zero) {d n b ag} (hs:kW P e d n b ag) (len:Nat) :
  ∃z:Value,(∀w,(zeroValue e).run P w=.ok z w)∧(∀zc:Array Value,zc=(if len*n=0 then #[] else z.cells)→c9 G (dY zero len) ((Array.range (len*n)).map (zc[· % zc.size]!)).toList):=by
 obtain⟨z,h1,h2,h3,_⟩:=qe hz;have hn:=hz.size hs;refine⟨z,h1,?_⟩;rintro zc rfl;by_cases q:len*n=0
 ·have:dY zero len=[]:=by have:=kQ zero len;rw[hn,q] at this;exact List.length_eq_zero_iff.1 this
  rw[this];exact⟨by simp[q],fun i hi=>by simp at hi⟩
 ·rw[if_neg q];have:=xI (h2 G) len;rw[h3,hn] at this;rw[h3,hn];exact this
theorem sC (h:SR X N G st a w) (call:bW) {t e:TypeId}{len n bytes:Nat}{d ag} {ps:Array (Nat×Operand)}{zero:List IV}{parts:List (Nat×Nat)}{as:List Arg}(ht:X.P.underlying t=some (.slice e))
  (hs:kW X.P e d n bytes ag) (hz:jD X.P e zero) (hp:parts=ps.toList.map fun p=>(p.1*n,n)) (hl:len*n≤2^24) (ha:od X.rows (ps.toList.map (·.2)) as) {v:IV}{c:cV}{st':St}
  (hr:(IK.buildSlice n len zero parts as).run call st=some (v,c,st')) (o:Oper) (ho:o.op=.buildSlice t len ps):∃r w' G',gy X.P o a.eval w r w'∧OR X N G w st' a v c r G' w'∧∀b o' sp l cp,r=.slice (some ⟨b,o',sp⟩) l cp→lP G' w' b:=by
 simp only[IK.run] at hr;split at hr
 ·rename_i vs e1;split at hr
  ·rename_i cs e2;split at hr
   ·rename_i hall;simp only[Option.some.injEq,Prod.mk.injEq] at hr;obtain⟨rfl,rfl,rfl⟩:=hr;have hsv:=nY.of h ha e1;obtain⟨z,hz1,hz2⟩:=ER (G:=G) hz hs len;replace hz2:=hz2 _ rfl;have hps:(ps.map fun (i,x)=>(i,a.eval x)).toList=ps.toList.map fun p=>(p.1,a.eval p.2):=by simp
    obtain⟨arr',h3,h4⟩:=qv (G:=G) (fun i=>some (i*n,n)) (ps.toList.map fun p=>(p.1,a.eval p.2)) parts vs (dY zero len) _ cs (by rw[hp];simp)
     (by
      intro j p q e3 e4;subst hp;simp only[List.getElem?_map,Option.map_eq_some_iff] at e3 e4;obtain⟨y,ey,rfl⟩:=e3;obtain⟨y',ey',rfl⟩:=e4;rw[ey] at ey';simp only[Option.some.injEq] at ey';subst ey';rfl)
     (by have:=hsv.1;simpa using this.symm)
     (by
      intro j p v e3 e4;simp only[List.getElem?_map,Option.map_eq_some_iff] at e3;obtain⟨y,ey,rfl⟩:=e3;exact hsv.2 j v _ e4 (by simp[ey]))
     hz2 e2
    have hlen:cs.length=len*n:=by rw[rG _ _ _ _ e2,kQ,hz.size hs]
    have hal:arr'.toList.length=len*n:=by rw[h4.1,hlen]
    have hg:=jY h (dV.alloc w (.cells ⟨arr'.toList⟩ e)) (row:=cs) (len:=len) (cap:=len) (sz:=n) hlen hal (Nat.le_refl _) (fun i _ q=>by simp at q) (by rw[List.take_of_length_le (by omega)];exact h4.E7 hall);refine⟨_,_,_,.inl ?_,hg,fun b o' sp l cp q=>?_⟩
    rotate_left
    ·simp only[Value.slice.injEq,Option.some.injEq,Addr.mk.injEq] at q;obtain⟨⟨rfl,_,_⟩,_,_⟩:=q;exact⟨_,e,_,(dV.alloc w (.cells ⟨arr'.toList⟩ e)).new,.inr ⟨rfl,h.wf.gj⟩⟩
    by_cases q:len*n=0
    ·rw[if_pos q] at h3;simp only[execOp,ho,Instr.buildSlice,Sem.run_bind,aN ht,dX hs,Result.andThen_ok,if_neg (show ¬len*n>2^24 by omega),if_pos q,hps,h3,newRow,run_newObj,Sem.run_pure];rfl
    ·rw[if_neg q] at h3;simp only[execOp,ho,Instr.buildSlice,Sem.run_bind,aN ht,dX hs,Result.andThen_ok,if_neg (show ¬len*n>2^24 by omega),if_neg q,hz1,hps,h3,newRow,run_newObj,Sem.run_pure];rfl
   ·cases hr
  ·cases hr
 ·cases hr
theorem pZ (h:SR X N G st a w) {row:List IV}{len:Nat}{r:Value}(hv:SV G (.sl row len) r) {n sz:Nat}(hn:n*sz=row.length) :
  ∃rs,c9 G.pl row rs∧∀w':World,(∀b o,w'.cell? ⟨b,o,none⟩=w.cell? ⟨b,o,none⟩)→(Builtin.firstCells sz n r).run X.P w'=.ok ⟨rs⟩ w':=by
 cases hv with
 |zv a0 =>refine⟨[],c9.nil,fun w' _=>?_⟩;have:=run_firstCells_some (P:=X.P) w' sz n a0 0 0 [] (by simpa using hn.symm) (by intro j v e;simp at e);simpa using this
 |sl _ _ b o cap g h1 h2 h3 =>
  refine⟨(List.range row.length).map g,c9.ku (by simp) ?_,?_⟩
  ·intro i v r e1 e2;have hi:i<row.length:=(List.getElem?_eq_some_iff.1 e1).1;simp[hi] at e2;subst e2;obtain⟨_,rfl⟩:=List.getElem?_eq_some_iff.1 e1;exact h2 i hi
  ·intro w' hw;have:=run_firstCells_some (P:=X.P) w' sz n ⟨b,o,none⟩ len cap ((List.range row.length).map g) (by simp[hn]) (by
    intro j v e;have hj:j<row.length:=by have:=(List.getElem?_eq_some_iff.1 e).1;simpa using this
    simp[hj] at e;subst e;rw[eQ,hw];exact h.wf.dB _ _ _ (h1 j hj))
   simpa using this
theorem iZ:∀(s:List UInt8),c9 G (ah s) (s.map fun b=>Value.int .u8 b.toNat)
 |[]=>c9.nil
 |b::s=>c9.cons (.int _ _) (iZ s)
theorem jR:∀(s:List UInt8),(ah s).length=s.length
 |[]=>rfl
 |b::s=>by simp[ah,jR s]
theorem Dk (h:SR X N G st a w) {sz n:Nat}{x:IV}{xs:List IV}(hs:dG st.lb st.m sz x=some (xs,n)) {r:Value}(hv:SV G x r) (hlen:xs.length=n*sz):∃news,Src X.P w sz n r news∧c9 G xs news:=by
 unfold dG at hs;split at hs
 ·simp only[Option.some.injEq,Prod.mk.injEq] at hs;obtain⟨rfl,rfl⟩:=hs
  cases hv
  exact⟨[],⟨fun w'=>rfl,by simp[Builtin.firstCells],by simp[Builtin.firstCells],by simp⟩,c9.nil⟩
 ·rename_i row k;simp only[Option.some.injEq,Prod.mk.injEq] at hs;obtain⟨rfl,rfl⟩:=hs;obtain⟨rs,h2,h1⟩:=pZ h hv hlen.symm;have hl:∀w',(Builtin.lenOf r).run X.P w'=.ok k w':=by cases hv<;>(intro w';rfl)
  exact⟨rs,⟨hl,h1 w (fun _ _=>rfl),h1 w.drew (fun _ _=>rfl),by rw[h2.1];exact hlen⟩,h2.EJ⟩
 ·rename_i s;split at hs
  ·rename_i hsz;subst hsz;simp only[Option.some.injEq,Prod.mk.injEq] at hs;obtain⟨rfl,rfl⟩:=hs;have hr:=hv.ig;subst hr;have hf:∀w',(Builtin.firstCells 1 s.length (.string ⟨⟨s⟩⟩)).run X.P w'=.ok ⟨s.map fun b=>Value.int .u8 b.toNat⟩ w':=by intro w';simp only[Builtin.firstCells,Sem.run_pure];congr 1;apply Array.ext';simp[ByteArray.extract,ByteArray.copySlice]
   exact⟨s.map fun b=>Value.int .u8 b.toNat,⟨fun w'=>rfl,hf w,hf w.drew,by simp⟩,iZ s⟩
  ·cases hs
 ·rename_i id off k sz';split at hs
  ·rename_i hsz;subst hsz
   cases e:bu st.lb st.m (.pB id off) (k*sz') with
   |none=>rw[e] at hs;cases hs
   |some cs =>
    rw[e] at hs;simp only[Option.some.injEq,Prod.mk.injEq] at hs;obtain⟨rfl,rfl⟩:=hs
    cases hv with
    |sB _ _ _ _ b cap hb hc =>
     obtain⟨b',o',rs,h1,h2,h3,h4⟩:=ir h e (SV.of (VR.pB id off b hb));simp only[Value.pointer.injEq,Option.some.injEq,Addr.mk.injEq,and_true] at h1;obtain⟨rfl,rfl⟩:=h1;have hf:∀w',(∀o,w'.cell? ⟨b,o,none⟩=w.cell? ⟨b,o,none⟩)→(Builtin.firstCells sz' k (.slice (some ⟨b,off,none⟩) k cap)).run X.P w'=.ok ⟨rs⟩ w':=by intro w' hw;have:=run_firstCells_some (P:=X.P) w' sz' k ⟨b,off,none⟩ k cap rs (by rw[h2.1,h3]) (by intro j v e;rw[eQ,hw];exact h4 j v e);simpa using this
     exact⟨rs,⟨fun w'=>rfl,hf w (fun _=>rfl),hf w.drew (fun _=>rfl),by rw[h2.1,h3]⟩,h2⟩
  ·cases hs
 ·cases hs
end Go.Idl
namespace Go.Idl
open Classical
variable {X:Ctx}{N:Nat}{G:Gh}{st:St}{a:Act}{w:World}
theorem Ak {xs:List IV}{news:List Value}(h:c9 G xs news) (hp:xs.all IV.plain=true):∀v∈news,v.oneCell'=true:=by
 intro r hm;obtain⟨i,hi,rfl⟩:=List.getElem_of_mem hm;have hi':i<xs.length:=by rw[←h.1];exact hi
 have hv:=h.2 i hi' hi;have hpl:=List.all_eq_true.1 hp xs[i] (List.getElem_mem hi');generalize xs[i]=v at *;generalize news[i]=r at *
 cases hv<;>first | rfl | (simp[IV.plain] at hpl)
noncomputable def Gh.tB (G:Gh) (b0 o0:Nat) (rc:List Value):Gh:={ G with dB:=fun b o=>if b=b0∧o0≤o∧o<o0+rc.length then rc[o-o0]? else G.dB b o }
theorem ye {G0 : Gh} {w0 : World} (h : SR X N G st a w) (s0 : Step G0 w0 G w) {b o len cap n sz : Nat} {row xs : List IV} {news : List Value}
    (hf : Aa G0 w0 G w (.slice (some ⟨b, o, none⟩) len cap) sz) (hv : VR G (.sl row len) (.slice (some ⟨b, o, none⟩) len cap)) (hx : c9 G.pl xs news) (hrow : row.length = len * sz) (hxs : xs.length = n * sz) (hroom : len + n ≤ cap)
    (hm : ∀ j, iE (.slice (some ⟨b, o, none⟩) len cap) sz b j → (G0.ow b j).isSome ∨ w0.heap.size ≤ b) :
    ∃ G', OR X N G0 w0 st a (.sl (row ++ xs) (len + n)) (.own sz) (.slice (some ⟨b, o, none⟩) (len + n) cap) G' (w.setCells b (o + len * sz) news) := by
  have hnl : news.length = n * sz := by rw [hx.1, hxs]
  have hcap : (len + n) * sz ≤ cap * sz := Nat.mul_le_mul_right _ hroom;rw [Nat.add_mul] at hcap;have bey : ∀ j, j < news.length → iE (.slice (some ⟨b, o, none⟩) len cap) sz b (o + len * sz + j) := fun j hj => ⟨o, none, len, cap, rfl, by omega, by omega⟩
  have hcellS : ∀ j, j < news.length → (w.cell? ⟨b, o + len * sz + j, none⟩).isSome = true := fun j hj => (hf.cell b _ (bey j hj)).1;have hin : ∀ j (hj : j < news.length), (w.setCells b (o + len * sz) news).cell? ⟨b, o + len * sz + j, none⟩ = some news[j] := fun j hj => World.cell?_setCells_in b news _ w hcellS j hj
  have hout : ∀ b' j, ¬ (b' = b ∧ o + len * sz ≤ j ∧ j < o + len * sz + news.length) → (w.setCells b (o + len * sz) news).cell? ⟨b', j, none⟩ = w.cell? ⟨b', j, none⟩ := fun b' j hne =>
    World.cell?_setCells_out b news _ w ⟨b', j, none⟩ (fun e _ => by
      simp only at e ⊢;by_cases q : j < o + len * sz
      · exact .inl q
      · exact .inr (by by_cases q2 : o + len * sz + news.length ≤ j; · exact q2
                       · exact absurd ⟨e, by omega, by omega⟩ hne))
  have hfz : ∀ x, (w.setCells b (o + len * sz) news).frozen? x = w.frozen? x := World.frozen?_setCells b news _ w;by_cases hnb : news = []
  ·
    subst hnb;have : xs = [] := List.length_eq_zero_iff.1 (by have := hx.1; simpa using this.symm);subst this;simp only [List.append_nil, World.setCells];have hn0 : n * sz = 0 := by simpa using hxs.symm
    refine ⟨G, h, ?_, s0, fun sz' e => ?_⟩
    · obtain ⟨g, h1, h2, h3, _⟩ := hv.Qj;exact VR.sl row (len + n) b o cap g h1 h2 hroom
    · cases e
      have sub : ∀ b' j, iE (.slice (some ⟨b, o, none⟩) (len + n) cap) sz b' j → iE (.slice (some ⟨b, o, none⟩) len cap) sz b' j := by rintro b' j ⟨o', sp, l', c', e, h1, h2⟩;simp only [Value.slice.injEq, Option.some.injEq, Addr.mk.injEq] at e;obtain ⟨⟨rfl, rfl, rfl⟩, rfl, rfl⟩ := e;exact ⟨o, none, len, cap, rfl, by rw [Nat.add_mul] at h1; omega, h2⟩
      exact { spot := fun b' o' sp l c e => by simp only [Value.slice.injEq, Option.some.injEq, Addr.mk.injEq] at e; exact e.1.2.2.symm
              xm := fun b' j hb => hf.xm b' j (sub b' j hb)
              ow := fun b' j hb => hf.ow b' j (sub b' j hb)
              dB := fun b' j hb => hf.dB b' j (sub b' j hb)
              box := fun b' j hb => hf.box b' j (sub b' j hb)
              cell := fun b' j hb => hf.cell b' j (sub b' j hb) }
  · have hpos : 0 < news.length := List.length_pos_iff.2 hnb;have hbey0 := bey 0 hpos;have hnbox := hf.box b _ hbey0;obtain ⟨v0, hv0⟩ := Option.isSome_iff_exists.1 (hcellS 0 hpos);have hblt : b < w.heap.size := World.block_lt_of_cell? _ _ hv0
    obtain ⟨rc, t, f, hheap⟩ : ∃ rc t f, w.heap[b]? = some (.cells ⟨rc⟩ t f) := by
      unfold World.cell? at hv0;split at hv0
      · rename_i c e f hb; exact ⟨c.toList, e, f, hb⟩
      · cases hv0
    have hrl : o + len * sz + news.length ≤ rc.length := by have := (hf.cell b _ (bey (news.length - 1) (by omega))).1;rw [cC hheap] at this;obtain ⟨q, hq⟩ := Option.isSome_iff_exists.1 this;have := (List.getElem?_eq_some_iff.1 hq).1;omega
    have hheap' := gr b news (o + len * sz) w rc t f hheap hrl;have hother : ∀ b', b' ≠ b → (w.setCells b (o + len * sz) news).heap[b']? = w.heap[b']? := fun b' hne => cX b news _ w b' hne;obtain ⟨G', hG'⟩ : ∃ G', G' = G.tB b (o + len * sz) news := ⟨_, rfl⟩
    have himm : ∀ b' j v, G.dB b' j = some v → G'.dB b' j = some v := by
      intro b' j v e;subst hG';simp only [Gh.tB];rw [if_neg]
      · exact e
      · rintro ⟨rfl, h1, h2⟩;have := hf.dB b' j ⟨o, none, len, cap, rfl, by omega, by omega⟩;rw [this] at e; cases e
    have hbx : G'.bx = G.bx := by subst hG'; rfl
    have hlb : G'.lb = G.lb := by subst hG'; rfl
    have how : G'.ow = G.ow := by subst hG'; rfl
    have hHid : G'.cd = G.cd := by subst hG'; rfl
    have hOld : G'.gj = G.gj := by subst hG'; rfl
    have hopn : ∀ b', G'.p8 b' ↔ G.p8 b' := by intro b'; simp only [Gh.p8, hbx, hlb, hHid]
    have hboxed : ∀ b', G'.boxed b' ↔ G.boxed b' := by intro b'; simp only [Gh.boxed, hbx, hlb]
    have mo : ∀ {x ro}, eK X G x ro → eK X G' x ro := fun hh => hh.mono himm (by rw [hbx]; exact fun _ _ h => h);have mOw : ∀ {l s r}, gR G l s r → gR G' l s r := by intro l s r hh b' o' sp l' c' e; rw [how]; exact hh b' o' sp l' c' e
    refine ⟨G', ⟨?_, ?_, ?_, ?_⟩⟩
    · refine { size := h.size, env := ?_, own := fun i v s e => mOw (h.own i v s e), lk := ?_, lb := ?_, dE := ?_, dO := by rw [hlb]; exact h.dO, mr := ?_, wf := ?_ }
      · intro i v c e;exact ⟨(h.env i v c e).1.mono himm (by rw [hbx]; exact fun _ _ h => h) (by rw [hlb]; exact fun _ _ h => h), (h.env i v c e).2⟩
      · intro i l hm;have hl := h.lk i l hm
        cases l with
        | slot j => exact hl
        | L k off =>obtain ⟨b', e1, e2⟩ := hl;refine ⟨b', by rw [hlb]; exact e1, ?_⟩;rw [World.cell?_of_block (hother b' (fun q => hnbox (q ▸ .inr ⟨k, e1⟩)))]; exact e2
        | B k off =>obtain ⟨b', e1, e2⟩ := hl;refine ⟨b', by rw [hbx]; exact e1, ?_⟩;rw [World.cell?_of_block (hother b' (fun q => hnbox (q ▸ .inl ⟨k, e1⟩)))]; exact e2
        | marked =>have q := gz.nO (rs := news) ⟨rc, t, f, hheap, hrl⟩ hl;exact fun b o sp len cap e => (q b o sp len cap e).same hOld
      · intro k hn;obtain ⟨b', ro, e1, e2, e3⟩ := h.lb k hn;exact ⟨b', ro, by rw [hlb]; exact e1, by rw [hother b' (fun q => hnbox (q ▸ .inr ⟨k, e1⟩))]; exact e2, mo e3⟩
      · intro k cs cp off s e1 e2 b' r e3 e4;rw [hlb] at e3;rw [World.cell?_of_block (hother b' (fun q => hnbox (q ▸ .inr ⟨k, e3⟩)))] at e4;exact mOw (h.dE k cs cp off s e1 e2 b' r e3 e4)
      · refine { bx := ?_, own := ?_, kY := by rw [hbx]; exact h.mr.kY, cd := by rw [hHid]; exact h.mr.cd }
        · intro id hn;obtain ⟨b', ro, e1, e2, e3⟩ := h.mr.bx id hn;exact ⟨b', ro, by rw [hbx]; exact e1, by rw [hother b' (fun q => hnbox (q ▸ .inl ⟨id, e1⟩))]; exact e2, mo e3⟩
        · intro id cs cp off s e1 e2 b' r e3 e4;rw [hbx] at e3;rw [World.cell?_of_block (hother b' (fun q => hnbox (q ▸ .inl ⟨id, e3⟩)))] at e4;exact mOw (h.mr.own id cs cp off s e1 e2 b' r e3 e4)
      · refine { dB := ?_, inj := by rw [hbx]; exact h.wf.inj, ja := by rw [hlb]; exact h.wf.ja, fB := by rw [hbx, hlb]; exact h.wf.fB, eY := ?_, ew := ?_, eU := ?_, fL := ?_, dR := ?_, gj := by rw [hOld]; simpa using h.wf.gj, iD := ?_ }
        · intro b' j v e;subst hG';simp only [Gh.tB] at e;split at e
          · rename_i q;obtain ⟨rfl, q1, q2⟩ := q;obtain ⟨jj, rfl⟩ : ∃ jj, j = o + len * sz + jj := ⟨j - (o + len * sz), by omega⟩
            rw [hin jj (by omega), ← List.getElem?_eq_getElem];rw [show o + len * sz + jj - (o + len * sz) = jj by omega] at e;exact e
          · rename_i q;rw [hout b' j q];exact h.wf.dB b' j v e
        · intro b' q; rw [hboxed] at q; simpa using h.wf.eY b' q
        · intro b' j q;rw [hboxed] at q;subst hG';simp only [Gh.tB];rw [if_neg]
          · exact h.wf.ew b' j q
          · rintro ⟨rfl, _⟩; exact hnbox q
        · intro b' j q; rw [how]; rw [hboxed] at q; exact h.wf.eU b' j q
        · intro b' j l e;rw [how] at e;subst hG';simp only [Gh.tB];rw [if_neg]
          · exact h.wf.fL b' j l e
          · rintro ⟨rfl, q1, q2⟩;rw [hf.ow b' j ⟨o, none, len, cap, rfl, by omega, by omega⟩] at e; cases e
        · intro b' j l e;rw [how] at e;have hne : ¬ (b' = b ∧ o + len * sz ≤ j ∧ j < o + len * sz + news.length) := by rintro ⟨rfl, q1, q2⟩;rw [hf.ow b' j ⟨o, none, len, cap, rfl, by omega, by omega⟩] at e; cases e
          rw [hout b' j hne, hfz];exact h.wf.dR b' j l e
        · intro g row hr; exact (h.wf.iD g row hr).mono himm (by rw [hbx]; exact fun _ _ h => h)
    · obtain ⟨g, h1, h2, h3, _⟩ := hv.Qj
      · refine VR.sl (row ++ xs) (len + n) b o cap (fun i => if i < row.length then g i else news.getD (i - row.length) undef) ?_ ?_ hroom
        · intro i hi;simp only [List.length_append] at hi;by_cases q : i < row.length
          · rw [if_pos q]; exact himm _ _ _ (h1 i q)
          · rw [if_neg q];subst hG';simp only [Gh.tB];rw [if_pos ⟨trivial, by omega, by omega⟩, List.getD_eq_getElem?_getD];rw [show o + i - (o + len * sz) = i - row.length by omega];rw [List.getElem?_eq_getElem (by omega)];rfl
        · intro i hi;simp only [List.length_append] at hi;by_cases q : i < row.length
          · rw [List.getElem_append_left q, if_pos q]; exact VR.mono (G := G.pl) (G' := G'.pl) himm (fun _ _ h => h) (h2 i q)
          · rw [List.getElem_append_right (by omega), if_neg q, List.getD_eq_getElem?_getD, List.getElem?_eq_getElem (by omega)];exact VR.mono (G := G.pl) (G' := G'.pl) himm (fun _ _ h => h) (hx.2 _ _ _)
    ·
      have hb0 : w0.heap.size ≤ b ∨ b < w0.heap.size := by omega
      refine { os := by simp [s0.os], tape := by simp [s0.tape], output := by simp [s0.output], size := by simp [s0.size], dB := fun b' j v e => himm _ _ _ (s0.dB _ _ _ e), bx := fun i b' e => by rw [hbx]; exact s0.bx _ _ e,
               other := ?_, cells := ?_, loop := fun b' L e => (by
                 obtain ⟨L', e'⟩ := s0.loop b' L e;exact ⟨L', by rw [hother b' (fun q => by subst q; rw [hheap] at e'; cases e')]; exact e'⟩), eW := ?_, fY := fun b' j l hb e => by rw [how] at e; exact s0.fY b' j l hb e, fh := fun b' hb q => s0.fh b' hb ((hopn b').1 q), cd := by rw [hHid]; exact s0.cd, gj := by rw [hOld]; exact s0.gj, gm := fun i b' e => by rw [hbx] at e; exact s0.gm i b' e }
      · intro b' x e nb nc;have := s0.other b' x e nb nc;rw [hother b' (fun q => by subst q; rw [this] at hheap; simp only [Option.some.injEq] at hheap; exact nc _ _ _ hheap)];exact this
      · intro b' c t' f' e nb;obtain ⟨c1, f1, e1, e2, e3, e4⟩ := s0.cells b' c t' f' e nb;by_cases q : b' = b
        · subst q;rw [hheap] at e1;simp only [Option.some.injEq, Obj.cells.injEq] at e1;obtain ⟨rfl, rfl, rfl⟩ := e1;refine ⟨_, _, hheap', ?_, fun i hi => ?_, e4⟩
          · simp only [List.size_toArray] at e2 ⊢; simp; omega
          · rw [← e3 i hi];simp only [List.getElem?_toArray];rw [tf hrl];by_cases q1 : i < o + len * sz
            · rw [if_pos q1]
            · rw [if_neg q1];by_cases q2 : i < o + len * sz + news.length
              · exfalso;rcases hm i ⟨o, none, len, cap, rfl, by omega, by omega⟩ with q3 | q3
                · rw [hi] at q3; cases q3
                · have := gw e; omega
              · rw [if_neg q2]
        · exact ⟨c1, f1, by rw [hother b' q]; exact e1, e2, e3, e4⟩
      · intro b' j v hb nb e;subst hG';simp only [Gh.tB] at e;split at e
        · rename_i q;obtain ⟨rfl, q1, q2⟩ := q;rcases hm j ⟨o, none, len, cap, rfl, by omega, by omega⟩ with q3 | q3
          · exact .inr q3
          · omega
        · exact s0.eW b' j v hb nb e
    · intro sz' e
      cases e
      have sub : ∀ b' j, iE (.slice (some ⟨b, o, none⟩) (len + n) cap) sz b' j → iE (.slice (some ⟨b, o, none⟩) len cap) sz b' j ∧ b' = b ∧ o + len * sz + news.length ≤ j := by rintro b' j ⟨o', sp, l', c', e, h1, h2⟩;simp only [Value.slice.injEq, Option.some.injEq, Addr.mk.injEq] at e;obtain ⟨⟨rfl, rfl, rfl⟩, rfl, rfl⟩ := e;rw [Nat.add_mul] at h1;exact ⟨⟨o, none, len, cap, rfl, by omega, h2⟩, rfl, by omega⟩
      refine { spot := fun b' o' sp l c e => by simp only [Value.slice.injEq, Option.some.injEq, Addr.mk.injEq] at e; exact e.1.2.2.symm, xm := fun b' j hb => hf.xm b' j (sub b' j hb).1, ow := fun b' j hb => by rw [how]; exact hf.ow b' j (sub b' j hb).1, dB := ?_, box := fun b' j hb q => hf.box b' j (sub b' j hb).1 ((hboxed b').1 q), cell := ?_ }
      · intro b' j hb;obtain ⟨q1, rfl, q2⟩ := sub b' j hb;subst hG';simp only [Gh.tB];rw [if_neg (by rintro ⟨_, _, q3⟩; omega)];exact hf.dB b' j q1
      · intro b' j hb;obtain ⟨q1, rfl, q2⟩ := sub b' j hb;rw [hout b' j (by rintro ⟨_, _, q3⟩; omega), hfz];exact hf.cell b' j q1
theorem LA (h:SR X N G st a w) {x:Operand}{x':Arg}(hx:fg X.rows x x') {sz:Nat}{l:Loc}(ho:st.owner x' sz=some l):st.dn l=.own sz∧QR G a w l (a.eval x):=by
 unfold St.owner at ho;split at ho
 ·rename_i i
  cases hx with
  |tmp =>
   split at ho
   ·rename_i sz' hc;split at ho
    ·rename_i e;subst e;simp only[Option.some.injEq] at ho;subst ho;exact⟨hc,rfl⟩
    ·cases ho
   ·split at ho
    ·rename_i l' e;split at ho
     ·rename_i hc;simp only[Option.some.injEq] at ho;subst ho;refine⟨hc,?_⟩;have hm:∀(lk:List (Nat×Loc)),aU lk i=some l'→(i,l')∈lk:=by
       intro lk
       induction lk with
       |nil=>intro e;cases e
       |cons p lk ih =>
        obtain⟨j,q⟩:=p;intro e2;rw[aU] at e2;split at e2
        ·rename_i hb;have:=Nat.eq_of_beq_eq_true hb
         cases e2
         rw[this];exact List.mem_cons_self
        ·exact List.mem_cons_of_mem _ (ih e2)
      have hl:=h.lk i l' (hm _ e)
      cases l' with
      |slot j=>exact hl.symm
      |L k off=>exact hl
      |B k off=>exact hl
      |marked=>simp[St.dn] at hc
     ·cases ho
    ·cases ho
 ·cases ho
theorem Al (h:SR X N G st a w) (call:bW) {t u e:TypeId}{x y:Operand}{x' y':Arg}{zero:List IV}{d:TypeDesc}{n bytes:Nat}{ag:Bool}(ht:X.P.underlying t=some (.slice e))
  (hu:X.P.underlying u=some .string∨∃e',X.P.underlying u=some (.slice e')) (hs:kW X.P e d n bytes ag) (hb:bytes≠0) (hn:n≠0) (hz:jD X.P e zero) (h1:fg X.rows x x') (h2:fg X.rows y y')
  {v:IV}{c:cV}{st':St}(hr:(IK.append n bytes x' y').run call st=some (v,c,st')) (o:Oper) (ho:o.op=.call ⟨.builtin .append,#[x,y],#[t,u]⟩) :
  ∃r w' G',gy X.P o a.eval w r w'∧OR X N G w st' a v c r G' w':=by
 have fin:∀{r:Value}{w':World},(Builtin.append_ #[t,u] o.type #[a.eval x,a.eval y]).run X.P w=.ok r w'→gy X.P o a.eval w r w':=fun q =>
  .inl (by simp only[execOp,ho,resolve,Sem.run_bind,Sem.run_pure,Result.andThen_ok,invoke,builtin];simp[q])
 have fin':∀{r:Value}{w':World},(Builtin.append_ #[t,u] o.type #[a.eval x,a.eval y]).run X.P w=.ok r w'→gy X.P o a.eval w r w':=fin;obtain⟨z,hz1,hz2,hz3,i,hi1,hi2⟩:=qe hz;have hzn:=hz.size hs;simp only[IK.run] at hr;split at hr
 ·rename_i xv sv e1 e2;have hyv:=h.rd h2 e1;have hxv:=h.rd h1 e2;split at hr
  ·cases hr
  ·rename_i xs k e3;split at hr
   ·rename_i hpl;simp only[Bool.and_eq_true,beq_iff_eq] at hpl;obtain⟨hpl,hcount⟩:=hpl;obtain⟨news,hsrc,hnews⟩:=Dk h e3 hyv hcount;have hone:=Ak hnews hpl;split at hr
    ·
     have hnil:a.eval x=.slice none 0 0:=by generalize a.eval x=q at hxv;cases hxv;rfl
     rw[hnil] at fin;split at hr
     ·rename_i hk;subst hk;simp only[Option.some.injEq,Prod.mk.injEq] at hr;obtain⟨rfl,rfl,rfl⟩:=hr;refine⟨_,w,G,fin (tj ht hu hs hsrc),⟨h,VR.aa,Step.refl _ _,fun sz q=>?_⟩⟩;have nb:∀b j,¬iE (.slice none 0 0) sz b j:=by rintro b j ⟨_,_,_,_,e,_⟩;cases e
      exact { spot:=fun b o sp l c e=>(by cases e),xm:=fun b j q=>(nb b j q).elim,ow:=fun b j q=>(nb b j q).elim,dB:=fun b j q=>(nb b j q).elim,box:=fun b j q=>(nb b j q).elim,cell:=fun b j q=>(nb b j q).elim }
     ·rename_i hk;split at hr
      ·rename_i hbd;simp only[Option.some.injEq,Prod.mk.injEq] at hr;obtain⟨rfl,rfl,rfl⟩:=hr;obtain⟨cap,hcap,hrun⟩:=nu (w:=w) (ty:=o.type) ht hu hs hi1 hi2 hb (base:=none) (sLen:=0) (sCap:=0) (n:=k) hsrc (by omega) (olds:=[]) (by simp[Builtin.firstCells]) (by simpa using hbd);rw[Nat.zero_add] at hrun hcap;have hg:=jY h (dV.pv w (.cells ⟨[]++news++(Builtin.zeroCells z.cells (cap-k)).toList⟩ e)) (row:=xs) (len:=k) (cap:=cap) (sz:=n) hcount
        (by
         have e5:=hnews.1;simp[size_zeroCells,hz3,hzn,e5,hcount,←Nat.add_mul];congr 1;omega) hcap (fun i _ q=>by simp at q) (by rw[List.nil_append,←hnews.1,List.take_left];exact hnews.E7 hpl)
       exact⟨_,_,_,fin hrun,hg⟩
      ·cases hr
    ·
     rename_i row len;split at hr
     ·rename_i l hown;split at hr
      ·rename_i hbd;obtain⟨hbd,hrl⟩:=hbd;split at hr
       ·rename_i st1 hd;simp only[Option.some.injEq,Prod.mk.injEq] at hr;obtain⟨rfl,rfl,rfl⟩:=hr;obtain⟨hc,hrv⟩:=LA h h1 hown;obtain⟨k1,k2,k3,k4⟩:=qs h hc hrv hd;have hv1:VR (G.clear (a.eval x) n) (.sl row len) (a.eval x):=VR.mono (G:=G) (G':=G.clear _ _) (fun _ _ _ h=>h) (fun _ _ h=>h) (SV.vr hxv rfl);have hn1:c9 (G.clear (a.eval x) n).pl xs news:=hnews.E7 hpl;have hsz:∃b o' cap,a.eval x=.slice (some ⟨b,o',none⟩) len cap∧len≤cap:=by
         have hq:=SV.vr hxv rfl;have hsp:=k3.spot;generalize a.eval x=q at hq hsp ⊢
         cases hq with
         |sl _ _ b o' cap g g1 g2 g3=>exact⟨b,o',cap,rfl,g3⟩
         |zv a0 =>obtain⟨ab,ao,sp⟩:=a0;have:=hsp ab ao sp 0 0 rfl;subst this;exact⟨ab,ao,0,rfl,Nat.le_refl _⟩
        obtain⟨b,o',cap,he,hle⟩:=hsz;rw[he] at k1 k2 k3 hv1 hn1 fin;by_cases hroom:len+k≤cap
        ·have hcap:(len+k)*n≤cap*n:=Nat.mul_le_mul_right _ hroom;rw[Nat.add_mul] at hcap;have hnl:news.length=k*n:=by rw[hnews.1,hcount]
         have bey:∀j,j<news.length→iE (.slice (some ⟨b,o',none⟩) len cap) n b (o'+len*n+j):=fun j hj=>⟨o',none,len,cap,rfl,by omega,by omega⟩
         obtain⟨G',hG⟩:=ye k1 k2 k3 hv1 hn1 hrl hcount hroom (fun j hb'=>(k3.xm b j hb').symm);exact⟨_,_,G',fin (nv ht hu hs hsrc hroom (fun j hj=>(k3.cell b _ (bey j hj)).1) (fun j hj=>(k3.cell b _ (bey j hj)).2) hone),hG⟩
        ·obtain⟨olds,hol,hold⟩:=pZ h (SV.of (SV.vr hxv rfl)) (n:=len) (sz:=n) hrl.symm;rw[he] at hold;obtain⟨cap',hcap,hrun⟩:=nu (w:=w) (ty:=o.type) ht hu hs hi1 hi2 hb (base:=some ⟨b,o',none⟩) (sLen:=len) (sCap:=cap) (n:=k) hsrc (by omega) (olds:=olds) (hold w.drew (fun _ _=>rfl)) hbd;have hol1:c9 (G.clear (.slice (some ⟨b,o',none⟩) len cap) n).pl row olds:=hol;have hg:=jY k1 (dV.pv w (.cells ⟨olds++news++(Builtin.zeroCells z.cells (cap'-(len+k))).toList⟩ e)) (row:=row++xs) (len:=len+k) (cap:=cap') (sz:=n)
          (by rw[List.length_append,hrl,hcount,Nat.add_mul])
          (by
           have e5:=hnews.1;have e6:=hol.1;simp[size_zeroCells,hz3,hzn,e5,e6,hcount,hrl,←Nat.add_mul];congr 1;omega) hcap (fun i _ q=>by simp at q)
          (by
           have e7:(row++xs).length=(olds++news).length:=by simp[hnews.1,hol.1]
           rw[e7,List.take_left];exact hol1.append hn1)
         exact⟨_,_,_,fin hrun,OR.after k2 hg⟩
       ·cases hr
      ·cases hr
     ·split at hr
      ·rename_i hk;subst hk;simp only[Option.some.injEq,Prod.mk.injEq] at hr;obtain⟨rfl,rfl,rfl⟩:=hr;have hsz:(∃b o' cap,a.eval x=.slice (some ⟨b,o',none⟩) len cap∧len≤cap)∨(∃a0,a.eval x=.slice (some a0) 0 0):=by
        have hq:=SV.vr hxv rfl;generalize a.eval x=q at hq ⊢
        cases hq with
        |sl _ _ b o' cap g g1 g2 g3=>exact .inl ⟨b,o',cap,rfl,g3⟩
        |zv a0=>exact .inr ⟨a0,rfl⟩
       have hnl:news=[]:=List.length_eq_zero_iff.1 (by have:=hsrc.count;simpa using this);rcases hsz with ⟨b,o',cap,he,hle⟩ | ⟨a0,he⟩
       ·rw[he] at fin hxv;have:=nv (w:=w) (ty:=o.type) (b:=b) (o:=o') (sLen:=len) (sCap:=cap) ht hu hs hsrc (by omega) (by simp[hnl]) (by simp[hnl]) hone;rw[hnl] at this;exact⟨_,w,G,fin this,OR.same h hxv⟩
       ·rw[he] at fin hxv;rw[hnl] at hsrc;have:=tp (w:=w) (ty:=o.type) (a:=a0) ht hu hs hsrc;exact⟨_,w,G,fin this,OR.same h hxv⟩
      ·cases hr
    ·cases hr
   ·cases hr
 ·cases hr
end Go.Idl
namespace Go.Idl
open Classical
variable {X:Ctx}{N:Nat}{G:Gh}{st:St}{a:Act}{w:World}
def World.putObj (w:World) (b:Nat) (o:Obj):World:={ w with heap:=w.heap.setIfInBounds b o }
def fX:Obj→Prop
 |.cells ..=>False
 |_=>True
theorem iU {P:Program}{b:Nat}{ro o:Obj}(h:w.heap[b]?=some ro) (hn:fX ro):(setObj b o).run P w=.ok () (World.putObj w b o):=by
 cases ro<;>first | exact hn.elim | simp[setObj,Sem.run,h,World.putObj]
theorem fN {P:Program}{b:Nat}{ro:Obj}(h:w.heap[b]?=some ro) (hn:fX ro):(getObj b).run P w=.ok ro w:=by
 cases ro<;>first | exact hn.elim | simp[getObj,Sem.run,h]
theorem hH {b:Nat}{ro o:Obj}(h:w.heap[b]?=some ro):(World.putObj w b o).heap[b]?=some o:=by have:=gw h;simp[World.putObj,this]
theorem cn {b k:Nat}{o:Obj}(h:k≠b):(World.putObj w b o).heap[k]?=w.heap[k]?:=by simp[World.putObj,Ne.symm h]
theorem fu {b:Nat}{ro o:Obj}(h:w.heap[b]?=some ro) (hn:fX ro) (ho:fX o) (x:Addr):(World.putObj w b o).cell? x=w.cell? x:=by
 by_cases q:x.block=b
 ·unfold World.cell?;rw[q,hH h,h]
  cases o<;>first | exact ho.elim | (cases ro<;>first | exact hn.elim | rfl)
 ·exact World.cell?_of_block (cn q)
theorem yn {b:Nat}{ro o:Obj}(h:w.heap[b]?=some ro) (hn:fX ro) (ho:fX o) (x:Addr):(World.putObj w b o).frozen? x=w.frozen? x:=by
 unfold World.frozen?;by_cases q:x.block=b
 ·rw[q,hH h,h]
  cases o<;>first | exact ho.elim | (cases ro<;>first | exact hn.elim | rfl)
 ·rw[cn q]
@[simp] theorem putObj_size {b:Nat}{o:Obj}:(World.putObj w b o).heap.size=w.heap.size:=by simp[World.putObj]
def I0 (ro o:Obj):Prop:=∀L,ro=.loop L→∃L',o=.loop L'
theorem Step.putObj {b:Nat}{ro o:Obj}(hr:w.heap[b]?=some ro) (hl:I0 ro o) (hb:G.p8 b):Step G w G (World.putObj w b o) where
 loop k L h:=by
  by_cases e:k=b
  ·subst e;rw[hr] at h;obtain⟨L',rfl⟩:=hl L (Option.some.inj h);exact⟨L',hH hr⟩
  ·exact⟨L,by rw[cn e];exact h⟩
 os:=rfl
 tape:=rfl
 output:=rfl
 size:=by simp
 dB _ _ _ h:=h
 bx _ _ h:=h
 other k x h nb _:=by rw[cn (by rintro rfl;exact nb hb)];exact h
 cells k c t f h nb:=⟨c,f,by rw[cn (by rintro rfl;exact nb hb)];exact h,rfl,fun _ _=>rfl,.inl rfl⟩
 eW _ _ _ _ _ h:=.inl h
 fY _ _ _ _ h:=by simp[h]
 fh _ _ h:=h
 cd:=rfl
 gj:=rfl
 gm _ _ h:=.inl h
theorem WF.putObj (h:WF X G w) {b:Nat}{ro o:Obj}(hr:w.heap[b]?=some ro) (hn:fX ro) (ho:fX o):WF X G (World.putObj w b o) where
 dB k i v e:=by rw[fu hr hn ho];exact h.dB k i v e
 inj:=h.inj
 ja:=h.ja
 fB:=h.fB
 eY k q:=by simpa using h.eY k q
 ew:=h.ew
 eU:=h.eU
 fL:=h.fL
 dR k i l e:=by rw[fu hr hn ho,yn hr hn ho];exact h.dR k i l e
 iD:=h.iD
 gj:=by simpa using h.gj
theorem gz.putObj {b:Nat}{ro o:Obj}(hr:w.heap[b]?=some ro) (hn:fX ro) (ho:fX o) {i:Nat}{l:Loc}(h:gz G a w i l):gz G a (World.putObj w b o) i l:=by
 cases l with
 |slot j=>exact h
 |L k off=>obtain⟨b',e1,e2⟩:=h;exact⟨b',e1,by rw[fu hr hn ho];exact e2⟩
 |B k off=>obtain⟨b',e1,e2⟩:=h;exact⟨b',e1,by rw[fu hr hn ho];exact e2⟩
 |marked =>
  intro b' o' sp len cap e;obtain⟨c,t,f,hc,hf⟩:=h b' o' sp len cap e;by_cases q:b'=b
  ·subst q;rw[hr] at hc;simp only[Option.some.injEq] at hc;subst hc;exact hn.elim
  ·exact⟨c,t,f,by rw[cn q];exact hc,hf⟩
theorem SR.Xv (h:SR X N G st a w) {k:Nat}{b:Nat}{ro o:Obj}{x x':aS}(hx:aQ st.lb k=x) (hb:G.lb k=some b) (hr:w.heap[b]?=some ro) (hn:fX ro) (ho:fX o) (hne:x' ≠ .none)
  (ho':eK X G x' o):SR X N G { st with lb:=(k,x')::st.lb } a (World.putObj w b o):=by
 refine { size:=h.size,env:=h.env,own:=h.own,lk:=fun i l hm=>(h.lk i l hm).putObj hr hn ho,lb:=?_,dE:=?_,dO:=?_,mr:=?_,wf:=h.wf.putObj hr hn ho }
 ·intro k' hn';rw[cg] at hn' ⊢;split at hn'
  ·rename_i e;subst e;rw[if_pos rfl];exact⟨b,o,hb,hH hr,ho'⟩
  ·rename_i e;rw[if_neg e];obtain⟨b',ro',e1,e2,e3⟩:=h.lb k' hn';exact⟨b',ro',e1,by rw[cn (fun q=>e (by subst q;exact h.wf.ja _ _ _ hb e1))];exact e2,e3⟩
 ·intro k' cs cp off sz e1 e2 b' r e3 e4;rw[cg] at e1;split at e1
  ·subst e1;cases ho';exact ho.elim
  ·rw[fu hr hn ho] at e4;exact h.dE k' cs cp off sz e1 e2 b' r e3 e4
 ·intro k' b' e;rw[cg];split
  ·exact hne
  ·exact h.dO k' b' e
 ·refine { bx:=?_,own:=?_,kY:=h.mr.kY,cd:=h.mr.cd }
  ·intro id hn';obtain⟨b',ro',e1,e2,e3⟩:=h.mr.bx id hn';exact⟨b',ro',e1,by rw[cn (fun q=>by subst q;exact h.wf.fB _ _ _ e1 hb)];exact e2,e3⟩
  ·intro id cs cp off sz e1 e2 b' r e3 e4;rw[fu hr hn ho] at e4;exact h.mr.own id cs cp off sz e1 e2 b' r e3 e4
theorem py {m m':IM}{id:Nat}{x:aS}(h:m.put id x=some m'):m'.size=m.size∧m'.kS=m.kS∧∀j,m'.get j=if id=j∧id<m.size then x else m.get j:=by
 simp only[IM.put,aK,Option.some.injEq] at h;subst h;refine⟨by simp[IM.size],rfl,fun j=>?_⟩;simp only[IM.get,IM.size,List.getD_eq_getElem?_getD,List.getElem?_set];by_cases q:id=j
 ·subst q;by_cases q2:id<m.bs.length
  ·simp[q2]
  ·simp[q2]
 ·simp[q]
theorem Rm {m:IM}{id:Nat}(h:m.get id ≠ .none):id<m.size:=by
 rcases Nat.lt_or_ge id m.bs.length with q | q
 ·exact q
 ·simp[IM.get,List.getD_eq_getElem?_getD,List.getElem?_eq_none q] at h
theorem MR.p8 {m:IM}(h:MR X G m w) {id b:Nat}(hg:m.get id ≠ .none) (hb:G.bx id=some b):G.p8 b:=.inl ⟨id,hb,by
 cases q:G.cd id with
 |false=>rfl
 |true=>exact absurd (h.cd id q).2 hg⟩
theorem SR.Oi (h:SR X N G st a w) {id:Nat}{b:Nat}{ro o:Obj}{x':aS}{m':IM}(hx:st.m.get id ≠ .none) (hb:G.bx id=some b) (hr:w.heap[b]?=some ro) (hn:fX ro) (ho:fX o)
  (ho':eK X G x' o) (hm:st.m.put id x'=some m'):SR X N G { st with m:=m' } a (World.putObj w b o):=by
 obtain⟨hsz,_,hget⟩:=py hm;have hlt:=Rm hx;have hget':∀j,m'.get j=if id=j then x' else st.m.get j:=fun j=>by rw[hget];simp[hlt]
 refine { size:=h.size,env:=h.env,own:=h.own,lk:=fun i l hm=>(h.lk i l hm).putObj hr hn ho,lb:=?_,dE:=?_,dO:=h.dO,mr:=?_,wf:=h.wf.putObj hr hn ho }
 ·intro k' hn';obtain⟨b',ro',e1,e2,e3⟩:=h.lb k' hn';exact⟨b',ro',e1,by rw[cn (fun q=>by subst q;exact h.wf.fB _ _ _ hb e1)];exact e2,e3⟩
 ·intro k' cs cp off sz e1 e2 b' r e3 e4;rw[fu hr hn ho] at e4;exact h.dE k' cs cp off sz e1 e2 b' r e3 e4
 ·refine { bx:=?_,own:=?_,kY:=fun j b' e=>by rw[hsz];exact h.mr.kY j b' e,cd:=fun j e=>?_ }
  ·intro j hn';simp only[hget'] at hn' ⊢;split at hn'
   ·rename_i q;subst q;rw[if_pos rfl];exact⟨b,o,hb,hH hr,ho'⟩
   ·rename_i q;rw[if_neg q];obtain⟨b',ro',e1,e2,e3⟩:=h.mr.bx j hn';exact⟨b',ro',e1,by rw[cn (fun e=>q (by subst e;exact h.wf.inj _ _ _ hb e1))];exact e2,e3⟩
  ·intro j cs cp off sz e1 e2 b' r e3 e4;simp only[hget'] at e1;rw[fu hr hn ho] at e4;split at e1
   ·subst e1;cases ho';exact ho.elim
   ·exact h.mr.own j cs cp off sz e1 e2 b' r e3 e4
  ·obtain⟨q1,q2⟩:=h.mr.cd j e;refine⟨by rw[hsz];exact q1,?_⟩;rw[hget',if_neg (fun q=>hx (by rw[q];exact q2))];exact q2
theorem xG (h:SR X N G st a w) (call:bW) {t:TypeId}{x:Operand}{x':Arg}{k:Nat}(ht:X.P.underlying t=some .string) (hx:fg X.rows x x') {v:IV}{c:cV}{st':St}
  (hr:(IK.fa k x').run call st=some (v,c,st')) (o:Oper) (ho:o.op=.range t x):∃r w' G',gy X.P o a.eval w r w'∧OR X N G w st' a v c r G' w':=by
 simp only[IK.run] at hr;split at hr
 ·rename_i s e;have hs:=(h.rd hx e).ig;obtain⟨G',hG⟩:=qG h (dV.alloc w (.stringIter ⟨⟨s⟩⟩ 0)) hr (.iter s 0) (by simp) (fun cs cp' off sz e1 e2=>by cases e1);exact⟨_,_,G',.inl (by simp[execOp,ho,Instr.range,aN ht,hs]),hG⟩
 ·cases hr
theorem yh (h:SR X N G st a w) (call:bW) {x:Operand}{x':Arg}(hx:fg X.rows x x') {v:IV}{c:cV}{st':St}
  (hr:(IK.ee x').run call st=some (v,c,st')) (o:Oper) (ho:o.op=.next x true):∃r w' G',gy X.P o a.eval w r w'∧OR X N G w st' a v c r G' w':=by
 simp only[IK.run] at hr;split at hr
 ·rename_i k e;obtain⟨b,hb,hp⟩:=h.rd hx e;split at hr
  ·rename_i s pos e2;obtain⟨b',ro,h1,h2,h3⟩:=h.lb k (by rw[e2];simp);rw[hb] at h1;simp only[Option.some.injEq] at h1;subst h1;rw[e2] at h3
   cases h3
   have hsz:(ByteArray.mk ⟨s⟩).size=s.length:=rfl;split at hr
   ·rename_i hlt;simp only[Option.some.injEq,Prod.mk.injEq] at hr;obtain⟨rfl,rfl,rfl⟩:=hr;refine⟨.tuple ⟨[.bool true,.int .i64 pos,.int .i32 (Utf8.decode ⟨⟨s⟩⟩ pos).1]⟩,World.putObj w b (.stringIter ⟨⟨s⟩⟩ (pos+(Utf8.decode ⟨⟨s⟩⟩ pos).2)),G,.inl ?_,?_,?_,Step.putObj h2 (fun _ q=>by cases q) (.inr ⟨k,hb⟩),fun _ e=>by cases e⟩
    ·simp only[execOp,ho,hp,Instr.next,Sem.run_bind,fN h2 trivial,Result.andThen_ok,hsz,hlt,if_true,iU h2 trivial,Sem.run_pure];rfl
    ·exact h.Xv e2 hb h2 trivial trivial (by simp) (.iter _ _)
    ·exact VR.Dz (c9.cons (.bool _) (c9.cons (.int _ _) (c9.cons (.int _ _) c9.nil)))
   ·rename_i hlt;simp only[Option.some.injEq,Prod.mk.injEq] at hr;obtain⟨rfl,rfl,rfl⟩:=hr;refine⟨.tuple ⟨[.bool false]⟩,w,G,.inl ?_,OR.same h (VR.Dz (c9.cons (.bool _) c9.nil))⟩;simp only[execOp,ho,hp,Instr.next,Sem.run_bind,fN h2 trivial,Result.andThen_ok,hsz,hlt,if_false,Sem.run_pure]
  ·cases hr
 ·cases hr
theorem CJ (h:SR X N G st a w) (call:bW) {t:TypeId}{v:IV}{c:cV}{st':St}
  (hr:IK.mkMap.run call st=some (v,c,st')) (o:Oper) (ho:o.op=.makeMap t none):∃r w' G',gy X.P o a.eval w r w'∧OR X N G w st' a v c r G' w':=by
 simp only[IK.run] at hr;obtain⟨G',hG⟩:=mg (v0:=.map st.m.size) h (dV.alloc w (.map #[] 0)) hr (.map [] [] 0 c9.nil c9.nil) (by simp) (fun cs cp' off sz e1 e2=>by cases e1)
  (r:=.map (some w.heap.size)) (fun G' e=>VR.map _ _ e)
 exact⟨_,_,G',.inl (by simp[execOp,ho,Instr.makeMap]),hG⟩
theorem AU (h:SR X N G st a w) (call:bW) {t k e:TypeId}{x:Operand}{x':Arg}(ht:X.P.underlying t=some (.map k e)) (hx:fg X.rows x x') {v:IV}{c:cV}{st':St}
  (hr:(IK.kt x').run call st=some (v,c,st')) (o:Oper) (ho:o.op=.call ⟨.builtin .len,#[x],#[t]⟩):∃r w' G',gy X.P o a.eval w r w'∧OR X N G w st' a v c r G' w':=by
 simp only[IK.run] at hr;split at hr
 ·rename_i e;have hv:=h.rd hx e;simp only[Option.some.injEq,Prod.mk.injEq] at hr;obtain⟨rfl,rfl,rfl⟩:=hr;generalize hq:a.eval x=q at hv
  cases hv
  refine⟨_,w,G,.inl ?_,OR.same h (VR.int _ _)⟩;simp[execOp,ho,resolve,invoke,builtin,Builtin.len_,Builtin.lenOf,aN ht,hq,goInt]
 ·rename_i id e;have hv:=h.rd hx e;split at hr
  ·rename_i es e2;simp only[Option.some.injEq,Prod.mk.injEq] at hr;obtain⟨rfl,rfl,rfl⟩:=hr;obtain⟨b,ro,h1,h2,h3⟩:=h.mr.bx id (by rw[e2];simp);rw[e2] at h3
   cases h3 with
   |map _ res clock hk hv' =>
    generalize hq:a.eval x=q at hv
    cases hv with
    |map _ b' hb =>
     rw[h1] at hb;simp only[Option.some.injEq] at hb;subst hb;refine⟨_,w,G,.inl ?_,OR.same h (VR.int _ _)⟩;have hl:es.length=res.length:=by simpa using hk.1.symm
     have hg:=fN (P:=X.P) h2 trivial;simp[execOp,ho,resolve,invoke,builtin,Builtin.len_,Builtin.lenOf,aN ht,hq,goInt,hg,hl]
  ·cases hr
 ·cases hr
theorem mF {ed:nW}{d:TypeDesc}(hd:lC ed d) {x y:IV}{rx ry:Value}(hx:SV G x rx) (hy:VR G y ry) {b:Bool}(h:rJ ed x y=some b) :
  Instr.sameNow d rx ry=some b∧(b=true→rx=ry∧Instr.sameBits 10000 ry rx=true):=by
 unfold rJ at h;split at h
 ·have h1:=hx.eS
  cases hy
  subst h1;split at h
  ·rename_i hk;simp only[Option.some.injEq] at h
   cases d<;>first | exact hd.elim | skip
   subst hk;refine⟨by simp[Instr.sameNow,h],fun hb=>?_⟩;subst hb;simp only[beq_iff_eq] at h;subst h;exact⟨rfl,by simp[Instr.sameBits]⟩
  ·cases h
 ·have h1:=hx.ig
  cases hy
  subst h1;simp only[Option.some.injEq] at h
  cases d<;>first | exact hd.elim | skip
  rename_i s s';have heq:((ByteArray.mk ⟨s⟩==ByteArray.mk ⟨s'⟩):Bool)=(s==s'):=by show (Array.mk s==Array.mk s')=_;simp
  refine⟨by simp[Instr.sameNow,heq,h],fun hb=>?_⟩;subst hb;simp only[beq_iff_eq] at h;subst h;exact⟨rfl,by simp[Instr.sameBits,heq]⟩
 ·have h1:=hx.kJ
  cases hy
  subst h1;simp only[Option.some.injEq] at h
  cases d<;>first | exact hd.elim | skip
  refine⟨by simp[Instr.sameNow,h],fun hb=>?_⟩;subst hb;simp only[beq_iff_eq] at h;subst h;exact⟨rfl,by simp[Instr.sameBits]⟩
 ·cases h
theorem qw {ed:nW}{d:TypeDesc}(hd:lC ed d) {x:IV}{rx:Value}(hx:SV G x rx):∀(es:List (IV×IV)) (res:List MapEntry) (i:Nat) (o:Option IV),c9 G (es.map (·.1)) (res.map (·.key))→c9 G (es.map (·.2)) (res.map (·.val))→tL ed x es=some o →
  match o with
  |none=>Instr.findNow d rx res i=some none
  |some v=>∃j r,Instr.findNow d rx res i=some (some (j,r))∧VR G v r
 |[],res,i,o,hk,hv,h=>by
  have:res=[]:=by simpa using hk.1
  subst this;simp only[tL,Option.some.injEq] at h;subst h;rfl
 |(y,v)::es,res,i,o,hk,hv,h=>by
  cases res with
  |nil=>have:=hk.1;simp at this
  |cons e res =>
   simp only[tL] at h;split at h
   ·rename_i e1;simp only[Option.some.injEq] at h;subst h;obtain⟨h1,_⟩:=mF hd hx hk.head e1;exact⟨i,e.val,by simp[Instr.findNow,h1],hv.head⟩
   ·rename_i e1;obtain⟨h1,_⟩:=mF hd hx hk.head e1;have:=qw hd hx es res (i+1) o hk.tail hv.tail h;simp only[Instr.findNow,h1];exact this
   ·cases h
theorem jq {P:Program}{k:TypeId}{d:TypeDesc}(hk:P.underlying k=some d) {ed:nW}(hd:lC ed d) (e:Bool) (v:Value):(Instr.checkKey e 10000 k v).run P w=.ok () w:=by
 unfold Instr.checkKey;simp only[Sem.run_bind,aN hk,Result.andThen_ok]
 cases d<;>first | (cases ed<;>exact hd.elim) | skip
 all_goals (cases v<;>rfl)
theorem AR (h:SR X N G st a w) (call:bW) {t k e:TypeId}{m x:Operand}{m' x':Arg}{zero:IV}{ok:Bool}{d:TypeDesc}{ed:nW}(ht:X.P.underlying t=some (.map k e)) (hk:X.P.underlying k=some d) (hkd:lC ed d)
  (hz:∃i z,X.P.info? e=some i∧i.zero=some z∧∀G,VR G zero z) (hm:fg X.rows m m') (hx:fg X.rows x x') {v:IV}{c:cV}{st':St}
  (hr:(IK.lookup ed zero ok m' x').run call st=some (v,c,st')) (o:Oper) (ho:o.op=.lookup t m x ok):∃r w' G',gy X.P o a.eval w r w'∧OR X N G w st' a v c r G' w':=by
 obtain⟨i,z,hi,hiz,hzr⟩:=hz;have hzv:∀w,(zeroValue e).run X.P w=.ok z w:=fun w=>by simp[zeroValue,typeInfo,hi,hiz]
 simp only[IK.run] at hr;have fin:∀{v0:IV}{r0:Value}{b:Bool},VR G v0 r0→(if ok then IV.db [v0,.bool b] else v0,cV.any,st)=(v,c,st')→OR X N G w st' a v c (if ok then .tuple #[r0,.bool b] else r0) G w:=by
  intro v0 r0 b hv e;simp only[Prod.mk.injEq] at e;obtain⟨rfl,rfl,rfl⟩:=e;refine OR.same h ?_
  cases ok
  ·exact SV.of hv
  ·exact VR.Dz (c9.cons hv (c9.cons (.bool _) c9.nil))
 split at hr
 ·rename_i e1 e2;have hmv:=h.rd hm e1;generalize hq:a.eval m=q at hmv
  cases hmv
  refine⟨_,w,G,.inl ?_,fin (hzr G) (Option.some.inj hr)⟩;have hf:(Instr.findKey k (a.eval x) []).run X.P w=.ok none w:=by simp[Instr.findKey,aN hk,Instr.findNow]
  simp[execOp,ho,Instr.lookup,aN ht,hq,jq hk hkd,hf,hzv]
 ·rename_i id xk e1 e2;have hmv:=h.rd hm e1;have hxv:=h.rd hx e2;split at hr
  ·rename_i es e3;obtain⟨b,ro,h1,h2,h3⟩:=h.mr.bx id (by rw[e3];simp);rw[e3] at h3
   cases h3 with
   |map _ res clock hks hvs =>
    generalize hq:a.eval m=q at hmv
    cases hmv with
    |map _ b' hb =>
     rw[h1] at hb;simp only[Option.some.injEq] at hb;subst hb;have hg:=fN (P:=X.P) h2 trivial;split at hr
     ·rename_i v0 e4;obtain⟨j,r0,h4,h5⟩:=qw hkd hxv es res 0 _ hks hvs e4;refine⟨_,w,G,.inl ?_,fin h5 (Option.some.inj hr)⟩;have hf:(Instr.findKey k (a.eval x) res).run X.P w=.ok (some (j,r0)) w:=by simp[Instr.findKey,aN hk,h4]
      simp[execOp,ho,Instr.lookup,aN ht,hq,hg,jq hk hkd,hf]
     ·rename_i e4;have h4:=qw hkd hxv es res 0 _ hks hvs e4;simp only at h4;refine⟨_,w,G,.inl ?_,fin (hzr G) (Option.some.inj hr)⟩;have hf:(Instr.findKey k (a.eval x) res).run X.P w=.ok none w:=by simp[Instr.findKey,aN hk,h4]
      simp[execOp,ho,Instr.lookup,aN ht,hq,hg,jq hk hkd,hf,hzv]
     ·cases hr
  ·cases hr
 ·cases hr
theorem zA {ed : nW} {d : TypeDesc} (hd : lC ed d) {x v : IV} {rx rv : Value} (hx : VR G x rx) (hv0 : VR G v rv) (clock : Nat) : ∀ (es : List (IV × IV)) (res : List MapEntry) (i : Nat) (es' : List (IV × IV)), c9 G (es.map (·.1)) (res.map (·.key)) → c9 G (es.map (·.2)) (res.map (·.val)) → xT ed x v es = some es' →
    ∃ res', c9 G (es'.map (·.1)) (res'.map (·.key)) ∧ c9 G (es'.map (·.2)) (res'.map (·.val)) ∧
      ((Instr.findNow d rx res i = some none ∧ res' = res ++ [{ key := rx, val := rv, born := clock }]) ∨
       (∃ j r e, Instr.findNow d rx res i = some (some (i + j, r)) ∧ res[j]? = some e ∧ e.key = rx ∧ Instr.sameBits 10000 e.key rx = true ∧ res' = res.modify j fun e => { e with key := rx, val := rv }))
  | [], res, i, es', hk, hv, h => by
    have : res = [] := by simpa using hk.1
    subst this;simp only [xT, Option.some.injEq] at h;subst h;exact ⟨[{ key := rx, val := rv, born := clock }], c9.cons hx c9.nil, c9.cons hv0 c9.nil, .inl ⟨rfl, rfl⟩⟩
  | (y, u) :: es, res, i, es', hk, hv, h => by
    cases res with
    | nil => have := hk.1; simp at this
    | cons e res =>
      simp only [xT] at h;split at h
      · rename_i e1;simp only [Option.some.injEq] at h;subst h;obtain ⟨h1, h2⟩ := mF hd (SV.of hx) hk.head e1;obtain ⟨h2, h3⟩ := h2 rfl;refine ⟨{ e with key := rx, val := rv } :: res, c9.cons hx hk.tail, c9.cons hv0 hv.tail, .inr ⟨0, e.val, e, by simp [Instr.findNow, h1], rfl, h2.symm, h3, rfl⟩⟩
      · rename_i e1;obtain ⟨h1, _⟩ := mF hd (SV.of hx) hk.head e1;simp only [Option.map_eq_some_iff] at h;obtain ⟨es2, h4, rfl⟩ := h;obtain ⟨res2, h5, h6, h7⟩ := zA hd hx hv0 clock es res (i + 1) es2 hk.tail hv.tail h4;refine ⟨e :: res2, c9.cons hk.head h5, c9.cons hv.head h6, ?_⟩;rcases h7 with ⟨h7, rfl⟩ | ⟨j, r, e', h7, h8, h9, h10, rfl⟩
        · exact .inl ⟨by simp [Instr.findNow, h1, h7], rfl⟩
        · exact .inr ⟨j + 1, r, e', by simp [Instr.findNow, h1, h7]; omega, by simpa using h8, h9, h10, by simp⟩
      · cases h
theorem AV (h:SR X N G st a w) (call:bW) {t k e:TypeId}{m x y:Operand}{m' x' y':Arg}{d:TypeDesc}{ed:nW}(ht:X.P.underlying t=some (.map k e)) (hk:X.P.underlying k=some d) (hkd:lC ed d)
  (hm:fg X.rows m m') (hx:fg X.rows x x') (hy:fg X.rows y y') {v:IV}{c:cV}{st':St}
  (hr:(IK.jy ed m' x' y').run call st=some (v,c,st')) (o:Oper) (ho:o.op=.mapUpdate t m x y):∃r w' G',gy X.P o a.eval w r w'∧OR X N G w st' a v c r G' w':=by
 simp only[IK.run] at hr;split at hr
 ·rename_i id xk yv e1 e2 e3;have hmv:=h.rd hm e1;split at hr
  ·rename_i es e4;split at hr
   ·rename_i _ _ es' e5 e6;simp only[Bool.and_eq_true] at e6;have nl:∀{v:IV},v.plain=true→v.jO=false:=by intro v q;cases v<;>first | rfl | (simp[IV.plain] at q)
    have hxv:=(h.rd hx e2).vr (nl e6.2);have hyv:=(h.rd hy e3).vr (nl e6.1);split at hr
    ·rename_i m2 e7;simp only[Option.some.injEq,Prod.mk.injEq] at hr;obtain⟨rfl,rfl,rfl⟩:=hr;obtain⟨b,ro,h1,h2,h3⟩:=h.mr.bx id (by rw[e4];simp);have hopn:=h.mr.p8 (by rw[e4];simp) h1;rw[e4] at h3
     cases h3 with
     |map _ res clock hks hvs =>
      generalize hq:a.eval m=q at hmv
      cases hmv with
      |map _ b' hb =>
       rw[h1] at hb;simp only[Option.some.injEq] at hb;subst hb;have hg:=fN (P:=X.P) h2 trivial;obtain⟨res',k1,k2,k3⟩:=zA hkd hxv hyv clock es res 0 es' hks hvs e5;rcases k3 with ⟨k3,rfl⟩ | ⟨j,r,en,k3,k4,k5,k6,rfl⟩
       ·have hf:(Instr.findKey k (a.eval x) res).run X.P w=.ok none w:=by simp[Instr.findKey,aN hk,k3]
        have hs:=iU (P:=X.P) (o:=.map ⟨res++[{ key:=a.eval x,val:=a.eval y,born:=clock }]⟩ (clock+1)) h2 trivial;refine⟨undef,_,G,.inr ⟨?_,rfl⟩,h.Oi (o:=.map ⟨res++[{ key:=a.eval x,val:=a.eval y,born:=clock }]⟩ (clock+1)) (by rw[e4];simp) h1 h2 trivial trivial (.map es' _ (clock+1) k1 k2) e7,SV.undef _,Step.putObj h2 (fun _ q=>by cases q) hopn,fun _ e=>by cases e⟩;simp[execOp,ho,Instr.mapUpdate,aN ht,hq,hg,jq hk hkd,hf,hs]
       ·rw[Nat.zero_add] at k3;have hf:(Instr.findKey k (a.eval x) res).run X.P w=.ok (some (j,r)) w:=by simp[Instr.findKey,aN hk,k3]
        have hks:(Instr.keyThatStays en.key (a.eval x)).run X.P w=.ok (a.eval x) w:=by simp[Instr.keyThatStays,k6]
        have hs:=iU (P:=X.P) (o:=.map ⟨res.modify j fun e=>{ e with key:=a.eval x,val:=a.eval y }⟩ clock) h2 trivial;refine⟨undef,_,G,.inr ⟨?_,rfl⟩,h.Oi (o:=.map ⟨res.modify j fun e=>{ e with key:=a.eval x,val:=a.eval y }⟩ clock) (by rw[e4];simp) h1 h2 trivial trivial (.map es' _ clock k1 k2) e7,SV.undef _,Step.putObj h2 (fun _ q=>by cases q) hopn,fun _ e=>by cases e⟩;simp[execOp,ho,Instr.mapUpdate,aN ht,hq,hg,jq hk hkd,hf,k4,hks,hs]
    ·cases hr
   ·cases hr
  ·cases hr
 ·cases hr
end Go.Idl
namespace Go.Idl
open Classical
variable {X:Ctx}{N:Nat}{G:Gh}{st:St}{a:Act}{w:World}
theorem xP (h:SR X N G st a w) (call:bW) {s d e:TypeId}{x:Operand}{x':Arg}(hs:X.P.underlying s=some .string) (hd:X.P.underlying d=some (.slice e)) (he:X.P.underlying e=some (.int .u8)) (hx:fg X.rows x x')
  {v:IV}{c:cV}{st':St}(hr:(IK.fb x').run call st=some (v,c,st')) (o:Oper) (ho:o.op=.convert s d x) :
  ∃r w' G',gy X.P o a.eval w r w'∧OR X N G w st' a v c r G' w'∧∀b o' sp l cp,r=.slice (some ⟨b,o',sp⟩) l cp→lP G' w' b:=by
 simp only[IK.run] at hr;split at hr
 ·rename_i bs e1;split at hr
  ·rename_i hle;simp only[Option.some.injEq,Prod.mk.injEq] at hr;obtain⟨rfl,rfl,rfl⟩:=hr;have hsv:=(h.rd hx e1).ig;have hrun:=run_bytes_of_string (P:=X.P) w s d e ⟨⟨bs⟩⟩ hs hd he;have hsz:(ByteArray.mk ⟨bs⟩).size=bs.length:=rfl;obtain⟨cap,hcap⟩:∃cap,cap=grownCap w (ByteArray.mk ⟨bs⟩).size 0 e:=⟨_,rfl⟩
   have hge:bs.length≤cap:=by rw[hcap,←hsz];exact grownCap_ge _ _ _ _
   rw[←hcap] at hrun;have hrow:bytesRow ⟨⟨bs⟩⟩ cap=⟨(bs.map fun b=>Value.int .u8 b.toNat)++List.replicate (cap-bs.length) (.int .u8 0)⟩:=by apply Array.ext';simp[bytesRow,hsz]
   rw[hrow] at hrun;have hg:=jY h (dV.pv w (.cells ⟨(bs.map fun b=>Value.int .u8 b.toNat)++List.replicate (cap-bs.length) (.int .u8 0)⟩ e (cap,cap+1))) (row:=ah bs) (len:=bs.length) (cap:=cap) (sz:=1)
    (by simp[jR]) (by simp;omega) hge (fun i hi q=>by simp at hi q;omega)
    (by
     rw[jR];have:bs.length=(bs.map fun b=>Value.int .u8 b.toNat).length:=by simp
     rw[this,List.take_left];exact iZ bs)
   have hcs:(Array.mk ((bs.map fun b=>Value.int .u8 b.toNat)++List.replicate (cap-bs.length) (Value.int .u8 0))).size=cap:=by simp;omega
   refine⟨_,_,_,.inl ?_,hg,?_⟩
   ·simp only[execOp,ho,hsv,Sem.run_bind,hrun,Result.andThen_ok,Sem.run_pure,hsz,hcs]
   ·intro b o' sp l cp q;simp only[Value.slice.injEq,Option.some.injEq,Addr.mk.injEq] at q;obtain⟨⟨rfl,_,_⟩,_,_⟩:=q;refine⟨⟨(bs.map fun b=>Value.int .u8 b.toNat)++List.replicate (cap-bs.length) (.int .u8 0)⟩,e,_,(dV.pv w _).new,.inl ?_⟩;rw[hcs]
  ·cases hr
 ·cases hr
theorem run_mark {P:Program}{b o:Nat}{sp:Option Nat}{c:Array Value}{t:TypeId}(h:w.heap[b]?=some (.cells c t (c.size,c.size+1))):(markStringish ⟨b,o,sp⟩).run P w=.ok () w:=by
 have h1:w.shape? b=some (t,c.size):=by simp[World.shape?,h]
 have h2:w.freeze ⟨b,c.size,none⟩ 1=w:=by
  have:(w.heap.modify b fun | .cells c' elem (lo,hi)=>.cells c' elem (if lo==hi then (c.size,c.size+1) else (min lo c.size,max hi (c.size+1))) | o=>o)=w.heap:=by
   apply Array.ext
   ·simp
   ·intro i h1 h2;rw[Array.getElem_modify];split
    ·rename_i q;subst q;obtain⟨_,h3⟩:=Array.getElem?_eq_some_iff.1 h;rw[h3];simp
    ·rfl
  unfold World.freeze;rw[if_neg (by decide)];exact congrArg (fun hp=>({ w with heap:=hp }:World)) this
 simp[markStringish,h1,h2]
theorem Cz:∀{lk:List (Nat×Loc)}{i:Nat}{l:Loc},aU lk i=some l→(i,l)∈lk
 |[],_,_,e=>by cases e
 |(j,q)::lk,i,l,e=>by
  rw[aU] at e;split at e
  ·rename_i hb;have:=Nat.eq_of_beq_eq_true hb
   cases e
   rw[this];exact List.mem_cons_self
  ·exact List.mem_cons_of_mem _ (Cz e)
def World.jI (w:World) (b:Nat) (c:Array Value) (t:TypeId):World:=World.putObj w b (.cells c t (c.size,c.size+1))
theorem H2 {P:Program}{b o:Nat}{sp:Option Nat}{c:Array Value}{t:TypeId}(h:w.heap[b]?=some (.cells c t (0,0))):(markStringish ⟨b,o,sp⟩).run P w=.ok () (World.jI w b c t):=by
 have h1:w.shape? b=some (t,c.size):=by simp[World.shape?,h]
 have h2:w.freeze ⟨b,c.size,none⟩ 1=World.jI w b c t:=by
  have:(w.heap.modify b fun | .cells c' elem (lo,hi)=>.cells c' elem (if lo==hi then (c.size,c.size+1) else (min lo c.size,max hi (c.size+1))) | o=>o)=w.heap.setIfInBounds b (.cells c t (c.size,c.size+1)):=by
   apply Array.ext
   ·simp
   ·intro i h1 h2;rw[Array.getElem_modify,Array.getElem_setIfInBounds];split
    ·rename_i q;subst q;obtain⟨_,h3⟩:=Array.getElem?_eq_some_iff.1 h;rw[h3];simp
    ·rfl
  unfold World.freeze;rw[if_neg (by decide)];exact congrArg (fun hp=>({ w with heap:=hp }:World)) this
 simp[markStringish,h1,h2]
theorem lL {b:Nat}{c:Array Value}{t:TypeId}{f:Nat×Nat}(h:w.heap[b]?=some (.cells c t f)) (x:Addr):(World.jI w b c t).cell? x=w.cell? x:=by
 by_cases q:x.block=b
 ·unfold World.cell?;rw[q,World.jI,hH h,h]
 ·exact World.cell?_of_block (cn q)
theorem nj {b:Nat}{c:Array Value}{t:TypeId}(h:w.heap[b]?=some (.cells c t (0,0))) {k:Nat}{o:Obj}(hk:w.heap[k]?=some o) :
  (World.jI w b c t).heap[k]?=some o∨(k=b∧o=.cells c t (0,0)∧(World.jI w b c t).heap[k]?=some (.cells c t (c.size,c.size+1))):=by
 by_cases q:k=b
 ·subst q;rw[h] at hk;exact .inr ⟨rfl,(Option.some.inj hk).symm,hH h⟩
 ·exact .inl (by rw[World.jI,cn q];exact hk)
theorem eK.marked {o:aS}{c:Array Value}{t:TypeId}(h:eK X G o (.cells c t (0,0))):eK X G o (.cells c t (c.size,c.size+1)):=by
 cases h with
 |cells cs cp rc t f g1 g2 g3=>exact .cells cs cp rc t _ g1 (fun i hi q=>by simp at q;omega) g3
theorem SR.jI (h:SR X N G st a w) {b:Nat}{c:Array Value}{t:TypeId}(hb:w.heap[b]?=some (.cells c t (0,0))):SR X N G st a (World.jI w b c t):=by
 have hrel:∀{k:Nat}{ro:Obj}{o:aS},w.heap[k]?=some ro→eK X G o ro→∃ro',(World.jI w b c t).heap[k]?=some ro'∧eK X G o ro':=by
  intro k ro o h1 h2;rcases nj hb h1 with q | ⟨_,rfl,q⟩
  ·exact⟨ro,q,h2⟩
  ·exact⟨_,q,h2.marked⟩
 refine { size:=h.size,env:=h.env,own:=h.own,lk:=?_,lb:=?_,dE:=?_,dO:=h.dO,mr:=?_,wf:=?_ }
 ·intro i l hm;have hl:=h.lk i l hm
  cases l with
  |slot j=>exact hl
  |L k off=>obtain⟨b',e1,e2⟩:=hl;exact⟨b',e1,by rw[lL hb];exact e2⟩
  |B k off=>obtain⟨b',e1,e2⟩:=hl;exact⟨b',e1,by rw[lL hb];exact e2⟩
  |marked =>
   intro b' o' sp len cap e;obtain⟨c',t',f',hc,hf⟩:=hl b' o' sp len cap e;rcases nj hb hc with q | ⟨_,q,q2⟩
   ·exact⟨c',t',f',q,hf⟩
   ·exact⟨_,_,_,q2,.inl rfl⟩
 ·intro k hn;obtain⟨b',ro,e1,e2,e3⟩:=h.lb k hn;obtain⟨ro',q1,q2⟩:=hrel e2 e3;exact⟨b',ro',e1,q1,q2⟩
 ·intro k cs cp off sz e1 e2 b' r e3 e4;rw[lL hb] at e4;exact h.dE k cs cp off sz e1 e2 b' r e3 e4
 ·refine { bx:=?_,own:=?_,kY:=h.mr.kY,cd:=h.mr.cd }
  ·intro id hn;obtain⟨b',ro,e1,e2,e3⟩:=h.mr.bx id hn;obtain⟨ro',q1,q2⟩:=hrel e2 e3;exact⟨b',ro',e1,q1,q2⟩
  ·intro id cs cp off sz e1 e2 b' r e3 e4;rw[lL hb] at e4;exact h.mr.own id cs cp off sz e1 e2 b' r e3 e4
 ·refine { dB:=fun k i v e=>by rw[lL hb];exact h.wf.dB k i v e,inj:=h.wf.inj,ja:=h.wf.ja,fB:=h.wf.fB,eY:=fun k q=>by simpa[World.jI] using h.wf.eY k q,ew:=h.wf.ew,eU:=h.wf.eU,fL:=h.wf.fL,dR:=?_,iD:=h.wf.iD,gj:=by simpa[World.jI] using h.wf.gj };intro k i l e;obtain⟨q1,q2⟩:=h.wf.dR k i l e;refine⟨by rw[lL hb];exact q1,?_⟩;by_cases q:k=b
  ·subst q;obtain⟨v,hv⟩:=Option.isSome_iff_exists.1 q1;rw[cC (rc:=c.toList) (by simpa using hb)] at hv;have hlt:=(List.getElem?_eq_some_iff.1 hv).1;have hp:(World.jI w k c t).heap[k]?=some (.cells ⟨c.toList⟩ t (c.size,c.size+1)):=by rw[World.jI,hH hb]
   rw[gV hp];simp only[Array.length_toList] at hlt;simp;omega
  ·unfold World.frozen? at q2 ⊢;rw[World.jI,cn (show (⟨k,i,none⟩:Addr).block≠b from q)];exact q2
theorem Step.jI {b:Nat}{c:Array Value}{t:TypeId}(hb:w.heap[b]?=some (.cells c t (0,0))) (ho:G.gj≤b):Step G w G (World.jI w b c t) where
 os:=rfl
 tape:=rfl
 output:=rfl
 size:=by simp[World.jI]
 dB _ _ _ h:=h
 bx _ _ h:=h
 other k x h nb nc:=by
  rcases nj hb h with q | ⟨_,q,_⟩
  ·exact q
  ·exact absurd q (nc _ _ _)
 cells k c' t' f h nb:=by
  rcases nj hb h with q | ⟨rfl,q,q2⟩
  ·exact⟨c',f,q,rfl,fun _ _=>rfl,.inl rfl⟩
  ·simp only[Obj.cells.injEq] at q;obtain⟨rfl,rfl,rfl⟩:=q;exact⟨_,_,q2,rfl,fun _ _=>rfl,.inr ⟨ho,rfl,rfl⟩⟩
 eW _ _ _ _ _ h:=.inl h
 fY _ _ _ _ h:=by simp[h]
 fh _ _ h:=h
 cd:=rfl
 gj:=rfl
 gm _ _ h:=.inl h
 loop k L h:=by
  rcases nj hb h with q | ⟨_,q,_⟩
  ·exact⟨L,q⟩
  ·cases q
theorem E1 (h:SR X N G st a w) (call:bW) {t e:TypeId}{x:Operand}{x':Arg}(ht:X.P.underlying t=some (.slice e)) (he:X.P.underlying e=some (.int .u8)) (hx:fg X.rows x x')
  {v:IV}{c:cV}{st':St}(hr:(IK.same x').run call st=some (v,c,st')) (o:Oper) (ho:o.op=.convert t t x) :
  ∃r w' G',gy X.P o a.eval w r w'∧OR X N G w st' a v c r G' w':=by
 simp only[IK.run] at hr;split at hr
 ·rename_i _ _ row len i e1
  cases hx with
  |tmp =>
   have hv:=h.rd (fg.tmp i) e1;split at hr
   ·rename_i hl;have hlk:=h.lk i .marked (Cz hl);have hvr:=SV.vr hv rfl;have hs:∃b o' sp cap,a.eval (.tmp i)=.slice (some ⟨b,o',sp⟩) len cap:=by
     generalize a.eval (.tmp i)=q at hvr ⊢
     cases hvr with
     |sl _ _ b o' cap g g1 g2 g3=>exact⟨b,o',none,cap,rfl⟩
     |zv a0=>exact⟨a0.block,a0.off,a0.spot,0,rfl⟩
    obtain⟨b,o',sp,cap,hs⟩:=hs;have hmark:∃w',gy X.P o a.eval w (a.eval (.tmp i)) w'∧SR X N G st a w'∧Step G w G w':=by
     obtain⟨cc,tt,ff,hc,hf⟩:=hlk b o' sp len cap hs;rcases hf with rfl | ⟨rfl,hold⟩
     ·exact⟨w,.inl (by simp[execOp,ho,convert,aN ht,aN he,hs,run_mark hc]),h,Step.refl _ _⟩
     ·exact⟨_,.inl (by simp[execOp,ho,convert,aN ht,aN he,hs,H2 hc]),h.jI hc,Step.jI hc hold⟩
    obtain⟨w',hrun,h',s'⟩:=hmark;split at hr
    ·rename_i sz hc;split at hr
     ·rename_i st1 hd;simp only[Option.some.injEq,Prod.mk.injEq] at hr;obtain⟨rfl,rfl,rfl⟩:=hr;obtain⟨G',hG⟩:=CY h' hc hd hv;exact⟨_,w',G',hrun,OR.after s' hG⟩
     ·cases hr
    ·simp only[Option.some.injEq,Prod.mk.injEq] at hr;obtain⟨rfl,rfl,rfl⟩:=hr;exact⟨_,w',G,hrun,OR.after s' (OR.same h' hv)⟩
   ·cases hr
 ·cases hr
theorem CG (w : World) {P : Program} {t e : TypeId} {zero : List IV} {d : TypeDesc} {n bytes : Nat} {ag : Bool} (ht : P.underlying t = some (.slice e)) (hs : kW P e d n bytes ag) (hz : jD P e zero) {kl kc : IntKind} {l c : Int} (h0 : 0 ≤ l) (hlc : l ≤ c) (hb : c * bytes ≤ aH) (hc : c ≤ aH) :
    ∃ rc : List Value, (Instr.makeSlice t (.int kl l) (.int kc c)).run P w = .ok (.slice (some ⟨w.heap.size, 0, none⟩) l.toNat c.toNat) (w.alloc (.cells ⟨rc⟩ e)) ∧ rc.length = c.toNat * n ∧ ∀ G, c9 G (dY zero c.toNat) rc := by
  obtain ⟨i, z, hi, hiz, hlen, hsz, hzr⟩ := hz;obtain ⟨i', q1, q2, q3⟩ := hs.info;rw [hi] at q1;simp only [Option.some.injEq] at q1;subst q1
  have hzs : z.cells.size = n := by have : z.cells.toList.length = z.cells.size := by simp
                                    omega
  refine ⟨(madeCells z.cells (c.toNat * i.size)).toList, run_make w t e i z ht hi hiz kl kc l c h0 hlc (by rw [q3, Int.mul_comm]; unfold aH at hb; omega) (by unfold aH at hc; omega), by rw [q2]; simp [madeCells], fun G => ?_⟩;have := xI (G := G) (hzr G) c.toNat;rw [hzs] at this;rw [q2];unfold madeCells;rw [hzs];exact this
theorem zr (zero:List IV):∀(n m:Nat),n≤m→(dY zero m).take (dY zero n).length=dY zero n
 |0,m,_=>by simp[dY]
 |n+1,0,h=>by omega
 |n+1,m+1,h=>by
  simp only[dY,List.length_append];rw[List.take_length_add_append,zr zero n m (by omega)]
theorem CF (h:SR X N G st a w) (call:bW) {t e:TypeId}{x y:Operand}{x' y':Arg}{zero:List IV}{d:TypeDesc}{n bytes:Nat}{ag:Bool}(ht:X.P.underlying t=some (.slice e)) (hs:kW X.P e d n bytes ag) (hz:jD X.P e zero)
  (hx:fg X.rows x x') (hy:fg X.rows y y') {v:IV}{c:cV}{st':St}(hr:(IK.me n bytes zero x' y').run call st=some (v,c,st')) (o:Oper) (ho:o.op=.makeSlice t x y) :
  ∃r w' G',gy X.P o a.eval w r w'∧OR X N G w st' a v c r G' w':=by
 simp only[IK.run] at hr;split at hr
 ·rename_i l cc e1 e2;have h1:=(h.rd hx e1).eS;have h2:=(h.rd hy e2).eS;split at hr
  ·rename_i hc;obtain⟨c1,c2,c3,c4⟩:=hc;simp only[Option.some.injEq,Prod.mk.injEq] at hr;obtain⟨rfl,rfl,rfl⟩:=hr;obtain⟨rc,k1,k2,k3⟩:=CG w (kl:=.i64) (kc:=.i64) ht hs hz c1 c2 c3 c4;have hle:l.toNat≤cc.toNat:=by omega
   have hg:=jY h (dV.alloc w (.cells ⟨rc⟩ e)) (row:=dY zero l.toNat) (len:=l.toNat) (cap:=cc.toNat) (sz:=n) (by rw[kQ,hz.size hs]) k2 hle (fun i _ q=>by simp at q)
    (by have:=(k3 G.pl).take (dY zero l.toNat).length;rw[zr _ _ _ hle] at this;exact this)
   exact⟨_,_,_,.inl (by simp only[execOp,ho,h1,h2,Sem.run_bind,k1,Result.andThen_ok,Sem.run_pure]),hg⟩
  ·cases hr
 ·cases hr
theorem CE (h:SR X N G st a w) (call:bW) {t e:TypeId}{x y:Operand}{x' y':Arg}{zero:List IV}{d:TypeDesc}{n bytes:Nat}{ag:Bool}(ht:X.P.underlying t=some (.slice e)) (hs:kW X.P e d n bytes ag) (hz:jD X.P e zero)
  (hx:fg X.rows x x') (hy:fg X.rows y y') {v:IV}{c:cV}{st':St}(hr:(IK.kO n bytes zero x' y').run call st=some (v,c,st')) (o:Oper) (ho:o.op=.makeSlice t x y) :
  ∃r w' G',gy X.P o a.eval w r w'∧OR X N G w st' a v c r G' w':=by
 simp only[IK.run] at hr;split at hr
 ·rename_i l cc e1 e2;have h1:=(h.rd hx e1).eS;have h2:=(h.rd hy e2).eS;split at hr
  ·rename_i hc;obtain⟨c1,c2,c3,c4⟩:=hc;obtain⟨rc,k1,k2,k3⟩:=CG w (kl:=.i64) (kc:=.i64) ht hs hz c1 c2 c3 c4;obtain⟨G',hG⟩:=mg (v0:=.sB st.m.size 0 l.toNat n) h (dV.alloc w (.cells ⟨rc⟩ e)) hr (eK.new e [] (k3 G)) (by simp) (fun cs cp' off sz e1 e2=>by cases e1;exact jC _ _ _ _ e2)
    (r:=.slice (some ⟨w.heap.size,0,none⟩) l.toNat cc.toNat) (fun G' e=>VR.sB _ _ _ _ _ _ e (by omega))
   exact⟨_,_,G',.inl (by simp only[execOp,ho,h1,h2,Sem.run_bind,k1,Result.andThen_ok,Sem.run_pure]),hG⟩
  ·cases hr
 ·cases hr
theorem ue (h:SR X N G st a w) {sz k:Nat}{x:IV}{xs:List IV}(hs:dG st.lb st.m sz x=some (xs,k)) {r:Value}(hv:SV G x r) (hlen:xs.length=k*sz) (P:Program) :
  ∃news,c9 G xs news∧(Builtin.lenOf r).run P w=.ok k w∧∀n,n≤k→(Builtin.firstCells sz n r).run P w=.ok ⟨news.take (n*sz)⟩ w:=by
 unfold dG at hs;split at hs
 ·simp only[Option.some.injEq,Prod.mk.injEq] at hs;obtain⟨rfl,rfl⟩:=hs
  cases hv
  exact⟨[],c9.nil,rfl,fun n _=>by simp[Builtin.firstCells]⟩
 ·rename_i row k';simp only[Option.some.injEq,Prod.mk.injEq] at hs;obtain⟨rfl,rfl⟩:=hs;have hvr:=SV.vr hv rfl
  cases hvr with
  |zv a0 =>
   refine⟨[],c9.nil,rfl,fun n hn=>?_⟩;obtain rfl:n=0:=by omega
   have:=run_firstCells_some (P:=P) w sz 0 a0 0 0 [] (by simp) (by intro j v e;simp at e);simpa using this
  |sl _ _ b o cap g h1 h2 h3 =>
   refine⟨(List.range row.length).map g,c9.ku (by simp) ?_,rfl,fun n hn=>?_⟩
   ·intro i v r e1 e2;have hi:i<row.length:=(List.getElem?_eq_some_iff.1 e1).1;simp[hi] at e2;subst e2;obtain⟨_,rfl⟩:=List.getElem?_eq_some_iff.1 e1;exact (h2 i hi).EJ
   ·have hle:n*sz≤row.length:=by rw[hlen];exact Nat.mul_le_mul_right _ hn
    have:=run_firstCells_some (P:=P) w sz n ⟨b,o,none⟩ k' cap (((List.range row.length).map g).take (n*sz)) (by simp;omega) (by
     intro j v e;rw[List.getElem?_take] at e;split at e
     ·rename_i hj;have hj':j<row.length:=by omega
      simp[hj'] at e;subst e;rw[eQ];exact h.wf.dB _ _ _ (h1 j hj')
     ·cases e)
    simpa using this
 ·rename_i s;split at hs
  ·rename_i hsz;subst hsz;simp only[Option.some.injEq,Prod.mk.injEq] at hs;obtain⟨rfl,rfl⟩:=hs;have hr:=hv.ig;subst hr;refine⟨s.map fun b=>Value.int .u8 b.toNat,iZ s,rfl,fun n hn=>?_⟩;simp only[Builtin.firstCells,Sem.run_pure];congr 1;apply Array.ext';simp[ByteArray.extract,ByteArray.copySlice]
  ·cases hs
 ·rename_i id off k' sz';split at hs
  ·rename_i hsz;subst hsz
   cases e:bu st.lb st.m (.pB id off) (k'*sz') with
   |none=>rw[e] at hs;cases hs
   |some cs =>
    rw[e] at hs;simp only[Option.some.injEq,Prod.mk.injEq] at hs;obtain⟨rfl,rfl⟩:=hs
    cases hv with
    |sB _ _ _ _ b cap hb hc =>
     obtain⟨b',o',rs,h1,h2,h3,h4⟩:=ir h e (SV.of (VR.pB id off b hb));simp only[Value.pointer.injEq,Option.some.injEq,Addr.mk.injEq,and_true] at h1;obtain⟨rfl,rfl⟩:=h1;refine⟨rs,h2,rfl,fun n hn=>?_⟩;have hle:n*sz'≤rs.length:=by rw[h2.1,hlen];exact Nat.mul_le_mul_right _ hn
     have:=run_firstCells_some (P:=P) w sz' n ⟨b,off,none⟩ k' cap (rs.take (n*sz')) (by simp;omega) (by
      intro j v e;rw[List.getElem?_take] at e;split at e
      ·rw[eQ];exact h4 j v e
      ·cases e)
     simpa using this
  ·cases hs
 ·cases hs
theorem Ea (h:SR X N G st a w) (call:bW) {t u e:TypeId}{x y:Operand}{x' y':Arg}{d:TypeDesc}{n bytes:Nat}{ag:Bool}(ht:X.P.underlying t=some (.slice e)) (hs:kW X.P e d n bytes ag)
  (hx:fg X.rows x x') (hy:fg X.rows y y') {v:IV}{c:cV}{st':St}(hr:(IK.copy n x' y').run call st=some (v,c,st')) (o:Oper) (ho:o.op=.call ⟨.builtin .copy,#[x,y],#[t,u]⟩) :
  ∃r w' G',gy X.P o a.eval w r w'∧OR X N G w st' a v c r G' w':=by
 have fin:∀{r:Value}{w':World},(Builtin.copy_ #[t,u] o.type #[a.eval x,a.eval y]).run X.P w=.ok r w'→gy X.P o a.eval w r w':=fun q =>
  .inl (by simp only[execOp,ho,resolve,Sem.run_bind,Sem.run_pure,Result.andThen_ok,invoke,builtin];simp[q])
 simp only[IK.run] at hr;split at hr
 ·rename_i dv sv e1 e2;have hdv:=h.rd hx e1;have hsv:=h.rd hy e2;split at hr
  ·rename_i id off dl _ xs k e3;split at hr
   ·cases hr
   ·rename_i hlen;have hlen:xs.length=k*n:=by simpa using hlen
    split at hr
    ·rename_i st2 hst;simp only[Option.some.injEq,Prod.mk.injEq] at hr;obtain⟨rfl,rfl,rfl⟩:=hr;obtain⟨news,k1,k2,k3⟩:=ue h e3 hsv hlen X.P;have hvr:=SV.vr hdv rfl;generalize hq:a.eval x=q at hvr
     cases hvr with
     |sB _ _ _ _ b cap hb hc =>obtain⟨b',o',h1,h2,h3,h4,h5⟩:=r8 h hst (SV.of (VR.pB id off b hb)) (k1.take (Nat.min k dl*n)) (fun sz e=>by cases e);simp only[Value.pointer.injEq,Option.some.injEq,Addr.mk.injEq,and_true] at h1;obtain⟨rfl,rfl⟩:=h1;have hstore:=(h3 w).resolve_right (fun q=>q rfl);refine⟨goInt (Nat.min k dl),_,G,fin ?_,h4,VR.int _ _,h5,fun _ e=>by cases e⟩;simp only[Builtin.copy_,hq,Sem.run_bind,aN ht,dX hs,Result.andThen_ok,k2,k3 _ (Nat.min_le_left _ _),hstore,Sem.run_pure,List.getElem?_toArray,List.getElem?_cons_zero,List.getElem?_cons_succ]
    ·cases hr
  ·rename_i _ xs k e3;split at hr
   ·cases hr
   ·rename_i hlen;have hlen:xs.length=k*n:=by simpa using hlen
    simp only[Option.some.injEq,Prod.mk.injEq] at hr;obtain⟨rfl,rfl,rfl⟩:=hr;obtain⟨news,k1,k2,k3⟩:=ue h e3 hsv hlen X.P;generalize hq:a.eval x=q at hdv
    cases hdv
    have k4:=k3 0 (Nat.zero_le _);refine⟨goInt 0,w,G,fin ?_,OR.same h (VR.int _ _)⟩;simp only[Builtin.copy_,hq,Sem.run_bind,aN ht,dX hs,Result.andThen_ok,k2,show Nat.min k 0=0 from Nat.min_zero k,k4,Sem.run_pure,List.getElem?_toArray,List.getElem?_cons_zero,List.getElem?_cons_succ];rfl
  ·cases hr
 ·cases hr
end Go.Idl
