/- This text proves that the operations of that interpreter are sound, each by itself; it has no conditions. -/
import Derived.Test.YtbpnjicaapldoaaGreatDoorIda
import Derived.Laws.IdiomCopy
import Derived.Laws.IdiomStrings
import Derived.Laws.MakeOwn
set_option linter.unusedSimpArgs false
set_option linter.unusedVariables false
namespace Go.Idl
open Classical
variable {X:Ctx}{N:Nat}{G:Gh}{st:St}{a:Act}{w:World}
theorem heap_setCells_other (b:Nat):∀(vs:List Value) (o:Nat) (w:World) (k:Nat),k≠b→(w.setCells b o vs).heap[k]?=w.heap[k]?
 |[],_,_,_,_=>rfl
 |v::r,o,w,k,h=>by
  rw[World.setCells,heap_setCells_other b r _ _ k h]
  exact heap_setCell_other w ⟨b,o,none⟩ k v h
theorem heap_setCells_same (b:Nat):∀(vs:List Value) (o:Nat) (w:World) (rc:List Value) (t:TypeId) (f:Nat×Nat),w.heap[b]?=some (.cells ⟨rc⟩ t f)→o+vs.length≤rc.length →
  (w.setCells b o vs).heap[b]?=some (.cells ⟨rc.take o++vs++rc.drop (o+vs.length)⟩ t f)
 |[],o,w,rc,t,f,h,_=>by simp[World.setCells,h]
 |v::r,o,w,rc,t,f,h,hl=>by
  have h1:(w.setCell ⟨b,o,none⟩ v).heap[b]?=some (.cells ⟨rc.set o v⟩ t f):=by
   simp only[World.setCell,Array.getElem?_modify,if_true,h,Option.map_some]
   simp
  simp only[List.length_cons] at hl
  rw[World.setCells,heap_setCells_same b r (o+1) _ _ t f h1 (by simp;omega)]
  congr 3
  have ho:o<rc.length:=by omega
  rw[List.take_set,List.take_succ_eq_append_getElem ho,List.drop_set,if_pos (by omega)]
  rw[List.set_append,if_neg (by simp;omega)]
  simp[Nat.min_eq_left (Nat.le_of_lt ho)]
  congr 1
  omega
@[simp] theorem setCells_os (b:Nat):∀(vs:List Value) (o:Nat) (w:World),(w.setCells b o vs).os=w.os
 |[],_,_=>rfl
 |v::r,o,w=>by rw[World.setCells,setCells_os b r];rfl
@[simp] theorem setCells_tape (b:Nat):∀(vs:List Value) (o:Nat) (w:World),(w.setCells b o vs).tape=w.tape
 |[],_,_=>rfl
 |v::r,o,w=>by rw[World.setCells,setCells_tape b r];rfl
@[simp] theorem setCells_output (b:Nat):∀(vs:List Value) (o:Nat) (w:World),(w.setCells b o vs).output=w.output
 |[],_,_=>rfl
 |v::r,o,w=>by rw[World.setCells,setCells_output b r];rfl
@[simp] theorem setCells_drawn (b:Nat):∀(vs:List Value) (o:Nat) (w:World),(w.setCells b o vs).drawn=w.drawn
 |[],_,_=>rfl
 |v::r,o,w=>by rw[World.setCells,setCells_drawn b r];rfl
@[simp] theorem setCells_size (b:Nat):∀(vs:List Value) (o:Nat) (w:World),(w.setCells b o vs).heap.size=w.heap.size
 |[],_,_=>rfl
 |v::r,o,w=>by rw[World.setCells,setCells_size b r];simp
theorem cell_of_heap {w:World}{b:Nat}{rc:List Value}{t:TypeId}{f:Nat×Nat}(h:w.heap[b]?=some (.cells ⟨rc⟩ t f)) (o:Nat):w.cell? ⟨b,o,none⟩=rc[o]?:=by
 simp[World.cell?,h]
theorem frozen_of_heap {w:World}{b:Nat}{rc:List Value}{t:TypeId}{f:Nat×Nat}(h:w.heap[b]?=some (.cells ⟨rc⟩ t f)) (o:Nat):w.frozen? ⟨b,o,none⟩=(decide (f.1≤o)&&decide (o<f.2)):=by
 simp[World.frozen?,h]
theorem one_of_refs {G:Gh}{v:IV}{r:Value}(h:VR G v r) {n:Nat}(hr:v.refs=some n):r.oneCell'=true:=by
 cases h<;>first | rfl | (simp[IV.refs,IV.plain] at hr)
theorem refsAll_mem {vs:List IV}{n:Nat}(h:refsAll vs=some n):∀v∈vs,∃k,v.refs=some k∧k≤n:=by
 induction vs generalizing n with
 |nil=>simp
 |cons v vs ih =>
  simp only[refsAll] at h
  split at h
  ·rename_i x y e1 e2
   simp only[Option.some.injEq] at h
   subst h
   intro u hu
   rcases List.mem_cons.1 hu with rfl | hu
   ·exact⟨x,e1,Nat.le_max_left _ _⟩
   ·obtain⟨k,h1,h2⟩:=ih e2 u hu
    exact⟨k,h1,Nat.le_trans h2 (Nat.le_max_right _ _)⟩
  ·cases h
theorem VRs.one {vs:List IV}{rs:List Value}(h:VRs G vs rs) {n:Nat}(hr:refsAll vs=some n):∀r∈rs,r.oneCell'=true:=by
 intro r hm
 obtain⟨i,hi,rfl⟩:=List.getElem_of_mem hm
 have hi':i<vs.length:=by rw[←h.1];exact hi
 obtain⟨k,h1,_⟩:=refsAll_mem hr vs[i] (List.getElem_mem hi')
 exact one_of_refs (h.2 i hi' hi) h1
theorem Step.setCells {b o:Nat}{vs:List Value}(hb:G.opn b):Step G w G (w.setCells b o vs) where
 os:=by simp
 tape:=by simp
 output:=by simp
 size:=by simp
 imm _ _ _ h:=h
 bx _ _ h:=h
 other k x h nb _:=by
  rw[heap_setCells_other b vs o w k (fun e=>nb (e▸hb))];exact h
 cells k c t f h nb:=⟨c,f,by rw[heap_setCells_other b vs o w k (fun e=>nb (e▸hb))];exact h,rfl,fun _ _=>rfl,.inl rfl⟩
 immNew _ _ _ _ _ h:=.inl h
 owNew _ _ _ _ h:=by simp[h]
 boxNew _ _ h:=h
 hid:=rfl
 old:=rfl
 loop k L h:=⟨L,by
  by_cases e:k=b
  ·subst e
   have hs:∀(vs:List Value) (o:Nat) (w:World),w.heap[k]?=some (.loop L)→(w.setCells k o vs).heap[k]?=some (.loop L):=by
    intro vs
    induction vs with
    |nil=>intro o w h;exact h
    |cons v r ih =>
     intro o w h
     rw[World.setCells]
     refine ih _ _ ?_
     simp only[World.setCell,Array.getElem?_modify,h,if_true,Option.map_some]
   exact hs vs o w h
  ·rw[heap_setCells_other b vs o w k e];exact h⟩
 bxNew _ _ h:=.inl h
theorem WF.setCells (h:WF X G w) {b o:Nat}{vs:List Value}(hb:G.boxed b):WF X G (w.setCells b o vs) where
 imm k i v e:=by
  have hk:k≠b:=fun q=>by subst q;rw[h.boximm k i hb] at e;cases e
  rw[World.cell?_of_block (heap_setCells_other b vs o w k hk)]
  exact h.imm k i v e
 inj:=h.inj
 linj:=h.linj
 disj:=h.disj
 boxlt k hk:=by simpa using h.boxlt k hk
 boximm:=h.boximm
 boxow:=h.boxow
 owimm:=h.owimm
 owcell k i l e:=by
  have hk:k≠b:=fun q=>by subst q;rw[h.boxow k i hb] at e;cases e
  rw[World.cell?_of_block (heap_setCells_other b vs o w k hk),World.frozen?_of_block (heap_setCells_other b vs o w k hk)]
  exact h.owcell k i l e
 glob:=h.glob
 old:=by simpa using h.old
def RvAt (G:Gh) (a:Act) (w:World):Loc→Value→Prop
 |.slot i,r=>a.tmps.getD i undef=r
 |.L k off,r=>∃b,G.lb k=some b∧w.cell? ⟨b,off,none⟩=some r
 |.B id off,r=>∃b,G.bx id=some b∧w.cell? ⟨b,off,none⟩=some r
 |.marked,_=>False
theorem look_of_slotC {e:Env}{i sz:Nat}(h:slotC e i=.own sz):∃v,look e i=some (v,.own sz):=by
 unfold slotC at h
 cases hl:look e i with
 |none=>rw[hl] at h;cases h
 |some p=>rw[hl] at h;obtain⟨v,c⟩:=p;simp only at h;subst h;exact⟨v,rfl⟩
theorem getD_own {cp:List Cap}{off sz:Nat}(h:cp.getD off .any=.own sz):cp[off]?=some (.own sz):=by
 rw[List.getD_eq_getElem?_getD] at h
 cases hq:cp[off]? with
 |none=>rw[hq] at h;cases h
 |some c=>rw[hq] at h;simp at h;rw[h]
theorem SR.ownAt (h:SR X N G st a w) {l:Loc}{sz:Nat}(hc:st.capAt l=.own sz) {r:Value}(hr:RvAt G a w l r):OwnAt G l sz r:=by
 cases l with
 |slot i =>
  obtain⟨v,hv⟩:=look_of_slotC hc
  have:=h.own i v sz hv
  rw[hr] at this;exact this
 |L k off =>
  obtain⟨b,hb,hw⟩:=hr
  simp only[St.capAt] at hc
  split at hc
  ·rename_i cs cp e
   exact h.lbown k cs cp off sz e (getD_own hc) b r hb hw
  ·cases hc
 |B id off =>
  obtain⟨b,hb,hw⟩:=hr
  simp only[St.capAt] at hc
  split at hc
  ·rename_i cs cp e
   exact h.mr.own id cs cp off sz e (getD_own hc) b r hb hw
  ·cases hc
 |marked=>exact hr.elim
noncomputable def Gh.clear (G:Gh) (r:Value) (sz:Nat):Gh:={ G with ow:=fun b j=>if Beyond r sz b j then none else G.ow b j }
theorem OwnAt.beyond {l:Loc}{sz:Nat}{r:Value}(h:OwnAt G l sz r) {b j:Nat}(hb:Beyond r sz b j):G.ow b j=some l:=by
 obtain⟨o,sp,len,cap,e,h1,h2⟩:=hb
 exact (h b o sp len cap e).2 j h1 h2
theorem OwnAt.clear {l l':Loc}{sz sz':Nat}{r r':Value}(h:OwnAt G l sz r) (h':OwnAt G l' sz' r') (hne:l≠l'):OwnAt (G.clear r sz) l' sz' r':=by
 intro b o sp len cap e
 obtain⟨h1,h2⟩:=h' b o sp len cap e
 refine⟨h1,fun j hj1 hj2=>?_⟩
 have:=h2 j hj1 hj2
 simp only[Gh.clear]
 rw[if_neg]
 ·exact this
 ·intro hb
  have e:=h.beyond hb
  rw[e] at this
  exact hne (by simpa using this)
theorem WF.clear (h : WF X G w) (r : Value) (sz : Nat) : WF X (G.clear r sz) w where
  imm := h.imm
  inj := h.inj
  linj := h.linj
  disj := h.disj
  boxlt := h.boxlt
  boximm := h.boximm
  boxow b o hb := by simp only [Gh.clear]; split; · rfl
                     · exact h.boxow b o hb
  owimm b o l e := by simp only [Gh.clear] at e; split at e; · cases e
                      · exact h.owimm b o l e
  owcell b o l e := by simp only [Gh.clear] at e; split at e; · cases e
                       · exact h.owcell b o l e
  old := h.old
  glob g row hr := VR.mono (G := G) (G' := G.clear r sz) (fun _ _ _ h => h) (fun _ _ h => h) (h.glob g row hr)
theorem Step.clear (r : Value) (sz : Nat) : Step G w (G.clear r sz) w where
  os := rfl
  tape := rfl
  output := rfl
  size := Nat.le_refl _
  imm _ _ _ h := h
  bx _ _ h := h
  other _ _ h _ _ := h
  cells _ c _ f h _ := ⟨c, f, h, rfl, fun _ _ => rfl, .inl rfl⟩
  immNew _ _ _ _ _ h := .inl h
  owNew b o l _ h := by simp only [Gh.clear] at h; split at h; · cases h
                        · simp [h]
  boxNew _ _ h := h
  hid := rfl
  old := rfl
  loop _ L h := ⟨L, h⟩
  bxNew _ _ h := .inl h
theorem OwnAt.free {l:Loc}{sz:Nat}{r:Value}(hw:WF X G w) (h:OwnAt G l sz r):Free G w (G.clear r sz) w r sz where
 spot b o sp len cap e:=(h b o sp len cap e).1
 mine b j hb:=.inr (by rw[h.beyond hb];rfl)
 ow b j hb:=by simp only[Gh.clear];rw[if_pos hb]
 imm b j hb:=hw.owimm b j l (h.beyond hb)
 box b j hb q:=by
  have:=hw.boxow b j q
  rw[h.beyond hb] at this;cases this
 cell b j hb:=hw.owcell b j l (h.beyond hb)
theorem ORel.clear {r:Value}{sz:Nat}{o:BObj}{ro:Obj}(h:ORel X G o ro):ORel X (G.clear r sz) o ro:=ORel.mono (G:=G) (G':=G.clear r sz) (fun _ _ _ h=>h) (fun _ _ h=>h) h
theorem drop_sound (h : SR X N G st a w) {l : Loc} {sz : Nat} (hc : st.capAt l = .own sz) {r : Value} (hr : RvAt G a w l r) {st' : St} (hd : st.drop l = some st') :
    SR X N (G.clear r sz) st' a w ∧ Step G w (G.clear r sz) w ∧ Free G w (G.clear r sz) w r sz ∧ OwnAt G l sz r := by
  have ho := h.ownAt hc hr
  refine ⟨?_, Step.clear r sz, ho.free h.wf, ho⟩
  have henv : ∀ i v c, look st.env i = some (v, c) → SV (G.clear r sz) v (a.tmps.getD i undef) ∧ i < N := fun i v c e =>
    ⟨SV.mono (G := G) (G' := G.clear r sz) (fun _ _ _ h => h) (fun _ _ h => h) (fun _ _ h => h) (h.env i v c e).1, (h.env i v c e).2⟩
  have hlb : ∀ k, lookL st.lb k ≠ .none → ∃ b ro, (G.clear r sz).lb k = some b ∧ w.heap[b]? = some ro ∧ ORel X (G.clear r sz) (lookL st.lb k) ro := fun k hn => by
    obtain ⟨b, ro, h1, h2, h3⟩ := h.lb k hn; exact ⟨b, ro, h1, h2, h3.clear⟩
  have hbx : ∀ id, st.m.get id ≠ .none → ∃ b ro, (G.clear r sz).bx id = some b ∧ w.heap[b]? = some ro ∧ ORel X (G.clear r sz) (st.m.get id) ro := fun k hn => by
    obtain ⟨b, ro, h1, h2, h3⟩ := h.mr.bx k hn; exact ⟨b, ro, h1, h2, h3.clear⟩
  cases l with
  | slot i =>
    obtain ⟨v, hv⟩ := look_of_slotC hc
    simp only [St.drop, hv, frc_eq, Option.some.injEq] at hd
    subst hd
    refine { size := h.size, env := ?_, own := ?_, lk := ?_, lb := hlb, lbown := ?_, lbdom := h.lbdom, mr := ?_, wf := h.wf.clear r sz }
    · intro j v' c' e
      rw [look_cons] at e
      split at e
      · rename_i e'; subst e'
        simp only [Option.some.injEq, Prod.mk.injEq] at e
        obtain ⟨rfl, rfl⟩ := e
        exact henv i v _ hv
      · exact henv j v' c' e
    · intro j v' sz' e
      rw [look_cons] at e
      split at e
      · simp at e
      · rename_i e'
        exact ho.clear (h.own j v' sz' e) (fun q => e' (by simpa using q))
    · intro j l hm
      have := h.lk j l (mem_lkSlot hm).1
      cases l <;> exact this
    · intro k cs cp off sz' e1 e2 b r' e3 e4
      exact ho.clear (h.lbown k cs cp off sz' e1 e2 b r' e3 e4) (by simp)
    · exact { bx := hbx, own := fun id cs cp off sz' e1 e2 b r' e3 e4 => ho.clear (h.mr.own id cs cp off sz' e1 e2 b r' e3 e4) (by simp), dom := h.mr.dom, hid := h.mr.hid }
  | L k off =>
    simp only [St.capAt] at hc
    split at hc
    · rename_i cs cp e
      simp only [St.drop, e, frc_eq, Option.some.injEq] at hd
      subst hd
      refine { size := h.size, env := henv, own := ?_, lk := ?_, lb := ?_, lbown := ?_, lbdom := ?_, mr := ?_, wf := h.wf.clear r sz }
      · intro j v' sz' e'
        exact ho.clear (h.own j v' sz' e') (by simp)
      · intro j l hm
        have := h.lk j l hm
        cases l <;> exact this
      · intro k' hn
        rw [lookL_cons] at hn ⊢
        split at hn
        · rename_i e'; subst e'
          rw [if_pos rfl]
          obtain ⟨b, ro, h1, h2, h3⟩ := hlb k (by rw [e]; simp)
          rw [e] at h3
          cases h3 with
          | cells _ _ rc t f g1 g2 g3 => exact ⟨b, _, h1, h2, .cells _ _ _ _ _ g1 g2 (by simpa using g3)⟩
        · rename_i e'
          rw [if_neg e']
          exact hlb k' hn
      · intro k' cs' cp' off' sz' e1 e2 b r' e3 e4
        rw [lookL_cons] at e1
        split at e1
        · rename_i e'; subst e'
          simp only [BObj.cells.injEq] at e1
          obtain ⟨rfl, rfl⟩ := e1
          by_cases hoff : off = off'
          · subst hoff
            rw [List.getElem?_set] at e2
            split at e2
            · split at e2 <;> simp at e2
            · rename_i q; exact absurd rfl q
          · rw [List.getElem?_set_ne hoff] at e2
            exact ho.clear (h.lbown k cs cp off' sz' e e2 b r' e3 e4) (by simp [hoff])
        · rename_i e'
          exact ho.clear (h.lbown k' cs' cp' off' sz' e1 e2 b r' e3 e4) (by simp [e'])
      · intro k' b hb
        rw [lookL_cons]
        split
        · simp
        · exact h.lbdom k' b hb
      · exact { bx := hbx, own := fun id cs cp off sz' e1 e2 b r' e3 e4 => ho.clear (h.mr.own id cs cp off sz' e1 e2 b r' e3 e4) (by simp), dom := h.mr.dom, hid := h.mr.hid }
    · cases hc
  | B id off =>
    simp only [St.capAt] at hc
    split at hc
    · rename_i cs cp e
      simp only [St.drop, e, frc_eq, IM.put, Option.some.injEq] at hd
      subst hd
      have hid : id < st.m.bs.length := by
        rcases Nat.lt_or_ge id st.m.bs.length with q | q
        · exact q
        · simp [IM.get, List.getD_eq_getElem?_getD, List.getElem?_eq_none q] at e
      have hget : ∀ j, IM.get { st.m with bs := st.m.bs.set id (.cells cs (cp.set off .any)) } j = if id = j then .cells cs (cp.set off .any) else st.m.get j := by
        intro j
        simp only [IM.get, List.getD_eq_getElem?_getD, List.getElem?_set]
        split
        · rename_i q; subst q; simp [hid]
        · rfl
      refine { size := h.size, env := henv, own := ?_, lk := ?_, lb := hlb, lbown := ?_, lbdom := h.lbdom, mr := ?_, wf := h.wf.clear r sz }
      · intro j v' sz' e'
        exact ho.clear (h.own j v' sz' e') (by simp)
      · intro j l hm
        have := h.lk j l hm
        cases l <;> exact this
      · intro k cs cp off sz' e1 e2 b r' e3 e4
        exact ho.clear (h.lbown k cs cp off sz' e1 e2 b r' e3 e4) (by simp)
      · refine { bx := ?_, own := ?_, dom := fun j b hb => (by have := h.mr.dom j b hb; simpa [IM.size] using this), hid := fun j hj => (by
            have q := h.mr.hid j hj
            rw [hget, if_neg (by rintro rfl; rw [e] at q; cases q.2)]; exact ⟨by simpa [IM.size] using q.1, q.2⟩) }
        · intro j hn
          rw [hget] at hn ⊢
          split at hn
          · rename_i q; subst q
            rw [if_pos rfl]
            obtain ⟨b, ro, h1, h2, h3⟩ := hbx id (by rw [e]; simp)
            rw [e] at h3
            cases h3 with
            | cells _ _ rc t f g1 g2 g3 => exact ⟨b, _, h1, h2, .cells _ _ _ _ _ g1 g2 (by simpa using g3)⟩
          · rename_i q; rw [if_neg q]; exact hbx j hn
        · intro j cs' cp' off' sz' e1 e2 b r' e3 e4
          rw [hget] at e1
          split at e1
          · rename_i q; subst q
            simp only [BObj.cells.injEq] at e1
            obtain ⟨rfl, rfl⟩ := e1
            by_cases hoff : off = off'
            · subst hoff
              rw [List.getElem?_set] at e2
              split at e2
              · split at e2 <;> simp at e2
              · rename_i q; exact absurd rfl q
            · rw [List.getElem?_set_ne hoff] at e2
              exact ho.clear (h.mr.own id cs cp off' sz' e e2 b r' e3 e4) (by simp [hoff])
          · rename_i q
            exact ho.clear (h.mr.own j cs' cp' off' sz' e1 e2 b r' e3 e4) (by simp [q])
    · cases hc
  | marked => exact hr.elim
end Go.Idl
namespace Go.Idl
open Classical
variable {X:Ctx}{N:Nat}{G:Gh}{st:St}{a:Act}{w:World}
theorem overCap_get {cp:List Cap}{off n:Nat}{c:Cap}(hl:off+n≤cp.length) (i:Nat) :
  (overCap cp off n c)[i]?=if i<off then cp[i]? else if i<off+n then some c else cp[i]?:=by
 unfold overCap
 have h1:(cp.take off).length=off:=by simp;omega
 rw[List.append_assoc]
 by_cases h2:i<off
 ·rw[if_pos h2,List.getElem?_append_left (by omega),List.getElem?_take_of_lt h2]
 ·rw[if_neg h2,List.getElem?_append_right (by omega),h1]
  by_cases h3:i<off+n
  ·rw[if_pos h3,List.getElem?_append_left (by simp;omega),List.getElem?_replicate,if_pos (by omega)]
  ·rw[if_neg h3,List.getElem?_append_right (by simp;omega),List.getElem?_drop]
   congr 1
   simp;omega
theorem overCap_length {cp:List Cap}{off n:Nat}{c:Cap}(hl:off+n≤cp.length):(overCap cp off n c).length=cp.length:=by
 unfold overCap;simp;omega
theorem over_length {cs vs:List IV}{off:Nat}(hl:off+vs.length≤cs.length):(over cs off vs).length=cs.length:=by
 unfold over;simp;omega
theorem overR_get {rc rs:List Value}{o:Nat}(hl:o+rs.length≤rc.length) (i:Nat) :
  (rc.take o++rs++rc.drop (o+rs.length))[i]?=if i<o then rc[i]? else if i<o+rs.length then rs[i-o]? else rc[i]?:=by
 have h1:(rc.take o).length=o:=by simp;omega
 rw[List.append_assoc]
 by_cases h2:i<o
 ·rw[if_pos h2,List.getElem?_append_left (by omega),List.getElem?_take_of_lt h2]
 ·rw[if_neg h2,List.getElem?_append_right (by omega),h1]
  by_cases h3:i<o+rs.length
  ·rw[if_pos h3,List.getElem?_append_left (by omega)]
  ·rw[if_neg h3,List.getElem?_append_right (by omega),List.getElem?_drop]
   congr 1
   omega
theorem mem_lkL {k:Nat}{lk:List (Nat×Loc)}{i:Nat}{l:Loc}(h:(i,l)∈lkL k lk):(i,l)∈lk∧∀off,l ≠ .L k off:=by
 induction lk with
 |nil=>simp[lkL] at h
 |cons p lk ih =>
  obtain⟨i',l'⟩:=p
  simp only[lkL] at h
  split at h
  ·rename_i k' off'
   split at h
   ·exact⟨List.mem_cons_of_mem _ (ih h).1,(ih h).2⟩
   ·rename_i hk
    rcases List.mem_cons.1 h with e | h
    ·cases e;exact⟨List.mem_cons_self,fun off e=>hk (by cases e;rfl)⟩
    ·exact⟨List.mem_cons_of_mem _ (ih h).1,(ih h).2⟩
  ·rename_i hn
   rcases List.mem_cons.1 h with e | h
   ·cases e;exact⟨List.mem_cons_self,fun off e=>hn k off (by rw[e])⟩
   ·exact⟨List.mem_cons_of_mem _ (ih h).1,(ih h).2⟩
theorem mem_lkB {f:Nat→Bool}{lk:List (Nat×Loc)}{i:Nat}{l:Loc}(h:(i,l)∈lkB f lk):(i,l)∈lk∧∀id off,l=.B id off→f id=false:=by
 induction lk with
 |nil=>simp[lkB] at h
 |cons p lk ih =>
  obtain⟨i',l'⟩:=p
  simp only[lkB] at h
  split at h
  ·rename_i k' off'
   split at h
   ·exact⟨List.mem_cons_of_mem _ (ih h).1,(ih h).2⟩
   ·rename_i hk
    rcases List.mem_cons.1 h with e | h
    ·cases e;exact⟨List.mem_cons_self,fun id off e=>by cases e;simpa using hk⟩
    ·exact⟨List.mem_cons_of_mem _ (ih h).1,(ih h).2⟩
  ·rename_i hn
   rcases List.mem_cons.1 h with e | h
   ·cases e;exact⟨List.mem_cons_self,fun id off e=>absurd (by rw[e]) (hn id off)⟩
   ·exact⟨List.mem_cons_of_mem _ (ih h).1,(ih h).2⟩
def locOf:IV→Option Loc
 |.pL k off=>some (.L k off)
 |.pB id off=>some (.B id off)
 |_=>none
theorem ORel.write {cs vs:List IV}{cp:List Cap}{rc rs:List Value}{t:TypeId}{f:Nat×Nat}{off n:Nat}{c:Cap}(h:ORel X G (.cells cs cp) (.cells ⟨rc⟩ t f)) (hv:VRs G vs rs) (hn:vs.length=n) (hl:off+n≤cs.length) :
  ORel X G (.cells (over cs off vs) (overCap cp off n c)) (.cells ⟨rc.take off++rs++rc.drop (off+rs.length)⟩ t f):=by
 cases h with
 |cells _ _ _ _ _ g1 g2 g3 =>
  refine .cells _ _ _ _ _ (g1.over hv off) (fun i hi=>g2 i ?_) ?_
  ·have:=g1.1;have:=hv.1
   simp at hi;omega
  ·rw[overCap_length (by omega),over_length (by omega),g3]
theorem LinkOK.marked_write {b o:Nat}{rs:List Value}{i:Nat}(hb:∃rc t f,w.heap[b]?=some (.cells ⟨rc⟩ t f)∧o+rs.length≤rc.length) (h:LinkOK G a w i .marked):LinkOK G a (w.setCells b o rs) i .marked:=by
 intro b' o' sp len cap e
 obtain⟨c,t,f0,hc,hf⟩:=h b' o' sp len cap e
 by_cases hbb:b'=b
 ·subst hbb
  obtain⟨rc,t',f,h1,h2⟩:=hb
  rw[hc] at h1
  simp only[Option.some.injEq,Obj.cells.injEq] at h1
  obtain⟨rfl,rfl,rfl⟩:=h1
  refine⟨⟨rc.take o++rs++rc.drop (o+rs.length)⟩,t,f0,heap_setCells_same b' rs o w rc t _ hc h2,?_⟩
  have:(Array.mk rc).size=(Array.mk (rc.take o++rs++rc.drop (o+rs.length))).size:=by simp;omega
  rw[this] at hf
  exact hf
 ·exact⟨c,t,f0,by rw[heap_setCells_other b rs o w b' hbb];exact hc,hf⟩
theorem storeI_sound (h:SR X N G st a w) {n:Nat}{p:IV}{vs:List IV}{c:Cap}{st':St}(hs:storeI st n p vs c=some st') {rp:Value}(hp:SV G p rp) {rs:List Value}(hv:VRs G vs rs)
  (hc:∀sz,c=.own sz→∃r,rs=[r]∧∀l,locOf p=some l→OwnAt G l sz r) :
  ∃b o,rp=.pointer (some ⟨b,o,none⟩)∧vs.length=n∧(∀i,(storeCells ⟨b,o,none⟩ rs).run X.P i=.ok () (i.setCells b o rs)∨i≠w)∧SR X N G st' a (w.setCells b o rs)∧Step G w G (w.setCells b o rs):=by
 unfold storeI at hs
 split at hs
 ·cases hs
 ·rename_i hlen
  have hlen:vs.length=n:=by simpa using hlen
  split at hs
  ·
   rename_i k off
   obtain⟨b,hb,rfl⟩:=hp
   split at hs
   ·rename_i cs cp q e1 e2
    split at hs
    ·rename_i hle
     simp only[frc_eq,Option.some.injEq] at hs
     subst hs
     obtain⟨b',ro,h1,h2,h3⟩:=h.lb k (by rw[e1];simp)
     rw[hb] at h1
     simp only[Option.some.injEq] at h1
     subst h1
     rw[e1] at h3
     have hopn:G.opn b:=.inr ⟨k,hb⟩
     have hboxed:=hopn.boxed
     cases h3 with
     |cells _ _ rc t f g1 g2 g3 =>
      have hrl:off+rs.length≤rc.length:=by rw[hv.1,g1.1];omega
      have hheap:=heap_setCells_same b rs off w rc t f h2 hrl
      have hcell:∀i,(w.setCells b off rs).cell? ⟨b,i,none⟩=if i<off then rc[i]? else if i<off+rs.length then rs[i-off]? else rc[i]?:=by
       intro i;rw[cell_of_heap hheap,overR_get hrl]
      refine⟨b,off,rfl,hlen,?_,?_,Step.setCells hopn⟩
      ·intro i
       by_cases hi:i=w
       ·subst hi
        left
        have:=run_storeCells_cells (P:=X.P) b off rs 0 i (fun j hj=>by rw[Nat.add_zero,cell_of_heap h2,List.getElem?_eq_getElem (by omega)];rfl)
         (fun j hj=>by
          rw[Nat.add_zero,frozen_of_heap h2]
          have:=g2 (off+j) (by omega)
          cases hq:(decide (f.1≤off+j)&&decide (off+j<f.2)) with
          |false=>rfl
          |true=>simp at hq;exact absurd hq this) (hv.one e2)
        simpa using this
       ·exact .inr hi
      ·have hother:∀b',b'≠b→(w.setCells b off rs).heap[b']?=w.heap[b']?:=fun b' hne=>heap_setCells_other b rs off w b' hne
       refine { size:=h.size,env:=h.env,own:=h.own,lk:=?_,lb:=?_,lbown:=?_,lbdom:=?_,mr:=?_,wf:=h.wf.setCells hboxed }
       ·intro i l hm
        obtain⟨hm,hne⟩:=mem_lkL hm
        have hl:=h.lk i l hm
        cases l with
        |slot j=>exact hl
        |L k' off' =>
         obtain⟨b',h4,h5⟩:=hl
         refine⟨b',h4,?_⟩
         have:b'≠b:=fun q=>by
          subst q
          have:=h.wf.linj k' k b' h4 hb
          subst this
          exact hne off' rfl
         rw[World.cell?_of_block (hother b' this)];exact h5
        |B id off' =>
         obtain⟨b',h4,h5⟩:=hl
         refine⟨b',h4,?_⟩
         have:b'≠b:=fun q=>by subst q;exact h.wf.disj id k b' h4 hb
         rw[World.cell?_of_block (hother b' this)];exact h5
        |marked=>exact LinkOK.marked_write ⟨rc,t,f,h2,hrl⟩ hl
       ·intro k' hn
        rw[lookL_cons] at hn ⊢
        split at hn
        ·rename_i e';subst e'
         rw[if_pos rfl]
         exact⟨b,_,hb,hheap,(ORel.cells cs cp rc t f g1 g2 g3).write hv hlen hle⟩
        ·rename_i e'
         rw[if_neg e']
         obtain⟨b',ro,h4,h5,h6⟩:=h.lb k' hn
         have:b'≠b:=fun q=>by subst q;exact e' (h.wf.linj k' k b' h4 hb).symm
         exact⟨b',ro,h4,by rw[hother b' this];exact h5,h6⟩
       ·intro k' cs' cp' off' sz e3 e4 b' r h4 h5
        rw[lookL_cons] at e3
        split at e3
        ·rename_i e';subst e'
         simp only[BObj.cells.injEq] at e3
         obtain⟨rfl,rfl⟩:=e3
         rw[hb] at h4
         simp only[Option.some.injEq] at h4
         subst h4
         rw[hcell] at h5
         rw[overCap_get (by omega)] at e4
         by_cases q1:off'<off
         ·rw[if_pos q1] at e4 h5
          exact h.lbown k cs cp off' sz e1 e4 b r hb (by rw[cell_of_heap h2];exact h5)
         ·rw[if_neg q1] at e4 h5
          by_cases q2:off'<off+n
          ·rw[if_pos q2] at e4
           simp only[Option.some.injEq] at e4
           obtain⟨r',hr',ho⟩:=hc sz e4
           subst hr'
           have:n=1:=by rw[←hlen,←hv.1];rfl
           have:off'=off:=by omega
           subst this
           simp at h5
           subst h5
           exact ho _ rfl
          ·rw[if_neg q2] at e4
           rw[if_neg (by rw[hv.1,hlen];exact q2)] at h5
           exact h.lbown k cs cp off' sz e1 e4 b r hb (by rw[cell_of_heap h2];exact h5)
        ·rename_i e'
         have:b'≠b:=fun q=>by subst q;exact e' (h.wf.linj k' k b' h4 hb).symm
         rw[World.cell?_of_block (hother b' this)] at h5
         exact h.lbown k' cs' cp' off' sz e3 e4 b' r h4 h5
       ·intro k' b' hb'
        rw[lookL_cons]
        split
        ·simp
        ·exact h.lbdom k' b' hb'
       ·refine { bx:=?_,own:=?_,dom:=h.mr.dom,hid:=h.mr.hid }
        ·intro id hn
         obtain⟨b',ro,h4,h5,h6⟩:=h.mr.bx id hn
         have:b'≠b:=fun q=>by subst q;exact h.wf.disj id k b' h4 hb
         exact⟨b',ro,h4,by rw[hother b' this];exact h5,h6⟩
        ·intro id cs' cp' off' sz e3 e4 b' r h4 h5
         have:b'≠b:=fun q=>by subst q;exact h.wf.disj id k b' h4 hb
         rw[World.cell?_of_block (hother b' this)] at h5
         exact h.mr.own id cs' cp' off' sz e3 e4 b' r h4 h5
    ·cases hs
   ·cases hs
  ·
   rename_i id off
   have hb:∃b,G.bx id=some b∧rp=.pointer (some ⟨b,off,none⟩):=by cases hp with | pB _ _ b hb=>exact⟨b,hb,rfl⟩
   obtain⟨b,hb,rfl⟩:=hb
   split at hs
   ·rename_i cs cp q e1 e2
    split at hs
    ·rename_i hle
     simp only[frc_eq,IM.put,Option.some.injEq] at hs
     subst hs
     obtain⟨b',ro,h1,h2,h3⟩:=h.mr.bx id (by rw[e1];simp)
     rw[hb] at h1
     simp only[Option.some.injEq] at h1
     subst h1
     rw[e1] at h3
     have hopn:G.opn b:=.inl ⟨id,hb,by
      cases q:G.hid id with
      |false=>rfl
      |true=>have:=h.mr.hid id q;rw[e1] at this;cases this.2⟩
     have hboxed:=hopn.boxed
     have hid:id<st.m.bs.length:=h.mr.dom id b hb
     have hget:∀(e:Nat) j,IM.get { bs:=st.m.bs.set id (.cells (over cs off vs) (overCap cp off n c)),esc:=e } j=if id=j then .cells (over cs off vs) (overCap cp off n c) else st.m.get j:=by
      intro e j
      simp only[IM.get,List.getD_eq_getElem?_getD,List.getElem?_set]
      split
      ·rename_i q;subst q;simp[hid]
      ·rfl
     cases h3 with
     |cells _ _ rc t f g1 g2 g3 =>
      have hrl:off+rs.length≤rc.length:=by rw[hv.1,g1.1];omega
      have hheap:=heap_setCells_same b rs off w rc t f h2 hrl
      have hcell:∀i,(w.setCells b off rs).cell? ⟨b,i,none⟩=if i<off then rc[i]? else if i<off+rs.length then rs[i-off]? else rc[i]?:=by
       intro i;rw[cell_of_heap hheap,overR_get hrl]
      refine⟨b,off,rfl,hlen,?_,?_,Step.setCells hopn⟩
      ·intro i
       by_cases hi:i=w
       ·subst hi
        left
        have:=run_storeCells_cells (P:=X.P) b off rs 0 i (fun j hj=>by rw[Nat.add_zero,cell_of_heap h2,List.getElem?_eq_getElem (by omega)];rfl)
         (fun j hj=>by
          rw[Nat.add_zero,frozen_of_heap h2]
          have:=g2 (off+j) (by omega)
          cases hq:(decide (f.1≤off+j)&&decide (off+j<f.2)) with
          |false=>rfl
          |true=>simp at hq;exact absurd hq this) (hv.one e2)
        simpa using this
       ·exact .inr hi
      ·have hother:∀b',b'≠b→(w.setCells b off rs).heap[b']?=w.heap[b']?:=fun b' hne=>heap_setCells_other b rs off w b' hne
       refine { size:=h.size,env:=h.env,own:=h.own,lk:=?_,lb:=?_,lbown:=?_,lbdom:=h.lbdom,mr:=?_,wf:=h.wf.setCells hboxed }
       ·intro i l hm
        obtain⟨hm,hne⟩:=mem_lkB hm
        have hl:=h.lk i l hm
        cases l with
        |slot j=>exact hl
        |L k' off' =>
         obtain⟨b',h4,h5⟩:=hl
         refine⟨b',h4,?_⟩
         have:b'≠b:=fun q=>by subst q;exact h.wf.disj id k' b' hb h4
         rw[World.cell?_of_block (hother b' this)];exact h5
        |B id' off' =>
         obtain⟨b',h4,h5⟩:=hl
         refine⟨b',h4,?_⟩
         have:b'≠b:=fun q=>by
          subst q
          have:=h.wf.inj id' id b' h4 hb
          subst this
          have:=hne id' off' rfl
          simp at this
         rw[World.cell?_of_block (hother b' this)];exact h5
        |marked=>exact LinkOK.marked_write ⟨rc,t,f,h2,hrl⟩ hl
       ·intro k' hn
        obtain⟨b',ro,h4,h5,h6⟩:=h.lb k' hn
        have:b'≠b:=fun q=>by subst q;exact h.wf.disj id k' b' hb h4
        exact⟨b',ro,h4,by rw[hother b' this];exact h5,h6⟩
       ·intro k' cs' cp' off' sz e3 e4 b' r h4 h5
        have:b'≠b:=fun q=>by subst q;exact h.wf.disj id k' b' hb h4
        rw[World.cell?_of_block (hother b' this)] at h5
        exact h.lbown k' cs' cp' off' sz e3 e4 b' r h4 h5
       ·refine { bx:=?_,own:=?_,dom:=fun j b hb=>(by have:=h.mr.dom j b hb;simpa[IM.size] using this),hid:=fun j hj=>(by
         have q:=h.mr.hid j hj
         refine⟨by simpa[IM.size] using q.1,?_⟩
         rw[hget,if_neg (by rintro rfl;rw[e1] at q;cases q.2)];exact q.2)}
        ·intro id' hn
         rw[hget] at hn ⊢
         split at hn
         ·rename_i e';subst e'
          rw[if_pos rfl]
          exact⟨b,_,hb,hheap,(ORel.cells cs cp rc t f g1 g2 g3).write hv hlen hle⟩
         ·rename_i e'
          rw[if_neg e']
          obtain⟨b',ro,h4,h5,h6⟩:=h.mr.bx id' hn
          have:b'≠b:=fun q=>by subst q;exact e' (h.wf.inj id' id b' h4 hb).symm
          exact⟨b',ro,h4,by rw[hother b' this];exact h5,h6⟩
        ·intro id' cs' cp' off' sz e3 e4 b' r h4 h5
         rw[hget] at e3
         split at e3
         ·rename_i e';subst e'
          simp only[BObj.cells.injEq] at e3
          obtain⟨rfl,rfl⟩:=e3
          rw[hb] at h4
          simp only[Option.some.injEq] at h4
          subst h4
          rw[hcell] at h5
          rw[overCap_get (by omega)] at e4
          by_cases q1:off'<off
          ·rw[if_pos q1] at e4 h5
           exact h.mr.own id cs cp off' sz e1 e4 b r hb (by rw[cell_of_heap h2];exact h5)
          ·rw[if_neg q1] at e4 h5
           by_cases q2:off'<off+n
           ·rw[if_pos q2] at e4
            simp only[Option.some.injEq] at e4
            obtain⟨r',hr',ho⟩:=hc sz e4
            subst hr'
            have:n=1:=by rw[←hlen,←hv.1];rfl
            have:off'=off:=by omega
            subst this
            simp at h5
            subst h5
            exact ho _ rfl
           ·rw[if_neg q2] at e4
            rw[if_neg (by rw[hv.1,hlen];exact q2)] at h5
            exact h.mr.own id cs cp off' sz e1 e4 b r hb (by rw[cell_of_heap h2];exact h5)
         ·rename_i e'
          have:b'≠b:=fun q=>by subst q;exact e' (h.wf.inj id' id b' h4 hb).symm
          rw[World.cell?_of_block (hother b' this)] at h5
          exact h.mr.own id' cs' cp' off' sz e3 e4 b' r h4 h5
    ·cases hs
   ·cases hs
  ·cases hs
theorem cellsAt_sound (h:SR X N G st a w) {p:IV}{n:Nat}{cs:List IV}(hc:cellsAt st.lb st.m p n=some cs) {rp:Value}(hp:SV G p rp) :
  ∃b o rs,rp=.pointer (some ⟨b,o,none⟩)∧VRs G cs rs∧cs.length=n∧∀j v,rs[j]?=some v→w.cell? ⟨b,o+j,none⟩=some v:=by
 unfold cellsAt at hc
 split at hc
 ·rename_i row off
  unfold cut at hc
  split at hc
  ·rename_i hle
   simp only[Option.some.injEq] at hc
   subst hc
   cases hp with
   |pI _ _ b o g h1 h2 =>
    refine⟨b,o+off,(List.range n).map fun j=>g (off+j),rfl,VRs.of_forall (by simp;omega) ?_,by simp;omega,?_⟩
    ·intro i v r e1 e2
     have hi:i<n:=by have:=(List.getElem?_eq_some_iff.1 e2).1;simpa using this
     rw[List.getElem?_take_of_lt hi,List.getElem?_drop] at e1
     simp[hi] at e2
     subst e2
     obtain⟨hlt,rfl⟩:=List.getElem?_eq_some_iff.1 e1
     exact (h2 _ hlt).ofPl
    ·intro j v e
     have hj:j<n:=by have:=(List.getElem?_eq_some_iff.1 e).1;simpa using this
     simp[hj] at e
     subst e
     rw[Nat.add_assoc]
     exact h.wf.imm _ _ _ (h1 _ (by omega))
  ·cases hc
 ·rename_i k off
  obtain⟨b,hb,rfl⟩:=hp
  split at hc
  ·rename_i cs' cp e
   obtain⟨b',ro,h1,h2,h3⟩:=h.lb k (by rw[e];simp)
   rw[hb] at h1
   simp only[Option.some.injEq] at h1
   subst h1
   rw[e] at h3
   cases h3 with
   |cells _ _ rc t f g1 g2 g3 =>
    unfold cut at hc
    split at hc
    ·rename_i hle
     simp only[Option.some.injEq] at hc
     subst hc
     refine⟨b,off,(rc.drop off).take n,rfl,(g1.drop off).take n,by simp;omega,?_⟩
     intro j v e
     have hj:j<n:=by have:=(List.getElem?_eq_some_iff.1 e).1;simp at this;omega
     rw[List.getElem?_take_of_lt hj,List.getElem?_drop] at e
     rw[cell_of_heap h2];exact e
    ·cases hc
  ·cases hc
 ·rename_i id off
  split at hc
  ·rename_i cs' cp e
   cases hp with
   |pB _ _ b hb =>
    obtain⟨b',ro,h1,h2,h3⟩:=h.mr.bx id (by rw[e];simp)
    rw[hb] at h1
    simp only[Option.some.injEq] at h1
    subst h1
    rw[e] at h3
    cases h3 with
    |cells _ _ rc t f g1 g2 g3 =>
     unfold cut at hc
     split at hc
     ·rename_i hle
      simp only[Option.some.injEq] at hc
      subst hc
      refine⟨b,off,(rc.drop off).take n,rfl,(g1.drop off).take n,by simp;omega,?_⟩
      intro j v e
      have hj:j<n:=by have:=(List.getElem?_eq_some_iff.1 e).1;simp at this;omega
      rw[List.getElem?_take_of_lt hj,List.getElem?_drop] at e
      rw[cell_of_heap h2];exact e
     ·cases hc
  ·cases hc
 ·cases hc
end Go.Idl
namespace Go.Idl
open Classical
variable {X:Ctx}{N:Nat}{G:Gh}{st:St}{a:Act}{w:World}
structure Grown1 (w w':World) (o:Obj):Prop where
 os:w'.os=w.os
 tape:w'.tape=w.tape
 output:w'.output=w.output
 size:w'.heap.size=w.heap.size+1
 old:∀k,k<w.heap.size→w'.heap[k]?=w.heap[k]?
 new:w'.heap[w.heap.size]?=some o
 drawn:w.drawn≤w'.drawn
theorem Grown1.alloc (w:World) (o:Obj):Grown1 w (w.alloc o) o where
 os:=rfl
 tape:=rfl
 output:=rfl
 size:=by simp
 old k h:=by show (w.heap.push o)[k]?=_;rw[Array.getElem?_push,if_neg (by omega)]
 new:=by show (w.heap.push o)[w.heap.size]?=_;simp
 drawn:=Nat.le_refl _
theorem Grown1.drewAlloc (w:World) (o:Obj):Grown1 w (w.drew.alloc o) o where
 os:=rfl
 tape:=rfl
 output:=rfl
 size:=by simp
 old k h:=by show (w.heap.push o)[k]?=_;rw[Array.getElem?_push,if_neg (by omega)]
 new:=by show (w.heap.push o)[w.heap.size]?=_;simp
 drawn:=Nat.le_succ _
structure Fresh (G:Gh) (b:Nat):Prop where
 box:¬G.boxed b
 imm:∀o,G.imm b o=none
 ow:∀o,G.ow b o=none
theorem WF.fresh (h:WF X G w) {b:Nat}(hb:w.heap.size≤b):Fresh G b where
 box q:=by have:=h.boxlt b q;omega
 imm o:=by
  cases e:G.imm b o with
  |none=>rfl
  |some v =>
   have:=h.imm b o v e
   have:=World.block_lt_of_cell? _ _ this
   simp at this;omega
 ow o:=by
  cases e:G.ow b o with
  |none=>rfl
  |some v =>
   obtain⟨x,hx⟩:=Option.isSome_iff_exists.1 (h.owcell b o v e).1
   have:=World.block_lt_of_cell? _ _ hx
   simp at this;omega
theorem Grown1.cell {w w':World}{o:Obj}(g:Grown1 w w' o) {b i:Nat}{v:Value}(h:w.cell? ⟨b,i,none⟩=some v):w'.cell? ⟨b,i,none⟩=some v:=by
 have:=World.block_lt_of_cell? _ _ h
 rw[World.cell?_of_block (g.old b this)];exact h
theorem WF.grow (h:WF X G w) {w':World}{o:Obj}(g:Grown1 w w' o):WF X G w' where
 imm b i v e:=g.cell (h.imm b i v e)
 inj:=h.inj
 linj:=h.linj
 disj:=h.disj
 boxlt b q:=by have:=h.boxlt b q;have:=g.size;omega
 boximm:=h.boximm
 boxow:=h.boxow
 owimm:=h.owimm
 owcell b i l e:=by
  obtain⟨h1,h2⟩:=h.owcell b i l e
  obtain⟨v,hv⟩:=Option.isSome_iff_exists.1 h1
  have hlt:=World.block_lt_of_cell? _ _ hv
  exact⟨by rw[g.cell hv];rfl,by rw[World.frozen?_of_block (g.old b hlt)];exact h2⟩
 glob:=h.glob
 old:=by have:=h.old;have:=g.size;omega
theorem Grown1.heap {w w':World}{o ro:Obj}(g:Grown1 w w' o) {b:Nat}(h:w.heap[b]?=some ro):w'.heap[b]?=some ro:=by rw[g.old b (heap_lt h)];exact h
theorem Grown1.cell_back {w w':World}{o:Obj}(g:Grown1 w w' o) {b i:Nat}(hb:b<w.heap.size):w'.cell? ⟨b,i,none⟩=w.cell? ⟨b,i,none⟩:=World.cell?_of_block (g.old b hb)
theorem MR.grow {m:IM}(h:MR X G m w) (hw:WF X G w) {w':World}{o:Obj}(g:Grown1 w w' o):MR X G m w' where
 bx id hn:=by
  obtain⟨b,ro,h1,h2,h3⟩:=h.bx id hn
  exact⟨b,ro,h1,g.heap h2,h3⟩
 own id cs cp off sz e1 e2 b r e3 e4:=by
  rw[g.cell_back (hw.boxlt b (.inl ⟨id,e3⟩))] at e4
  exact h.own id cs cp off sz e1 e2 b r e3 e4
 dom:=h.dom
 hid:=h.hid
theorem LinkOK.grow {i:Nat}{l:Loc}(h:LinkOK G a w i l) {w':World}{o:Obj}(g:Grown1 w w' o):LinkOK G a w' i l:=by
 cases l with
 |slot j=>exact h
 |L k off=>obtain⟨b,h1,h2⟩:=h;exact⟨b,h1,g.cell h2⟩
 |B k off=>obtain⟨b,h1,h2⟩:=h;exact⟨b,h1,g.cell h2⟩
 |marked =>
  intro b o' sp len cap e
  obtain⟨c,t,f,hc,hf⟩:=h b o' sp len cap e
  exact⟨c,t,f,g.heap hc,hf⟩
theorem SR.grow (h:SR X N G st a w) {w':World}{o:Obj}(g:Grown1 w w' o):SR X N G st a w' where
 size:=h.size
 env:=h.env
 own:=h.own
 lk i l hm:=(h.lk i l hm).grow g
 lb k hn:=by
  obtain⟨b,ro,h1,h2,h3⟩:=h.lb k hn
  exact⟨b,ro,h1,g.heap h2,h3⟩
 lbown k cs cp off sz e1 e2 b r e3 e4:=by
  rw[g.cell_back (h.wf.boxlt b (.inr ⟨k,e3⟩))] at e4
  exact h.lbown k cs cp off sz e1 e2 b r e3 e4
 lbdom:=h.lbdom
 mr:=h.mr.grow h.wf g
 wf:=h.wf.grow g
theorem Step.grow {w':World}{o:Obj}(g:Grown1 w w' o):Step G w G w' where
 os:=g.os
 tape:=g.tape
 output:=g.output
 size:=by have:=g.size;omega
 imm _ _ _ h:=h
 bx _ _ h:=h
 other k x h _ _:=g.heap h
 cells k c t f h _:=⟨c,f,g.heap h,rfl,fun _ _=>rfl,.inl rfl⟩
 immNew _ _ _ _ _ h:=.inl h
 owNew _ _ _ _ h:=by simp[h]
 boxNew _ _ h:=h
 hid:=rfl
 old:=rfl
 loop b L h:=⟨L,g.heap h⟩
 bxNew _ _ h:=.inl h
noncomputable def Gh.addRow (G:Gh) (b0:Nat) (rc:List Value) (n:Nat):Gh:={ G with imm:=fun b o=>if b=b0∧o<n then rc[o]? else G.imm b o }
theorem addRow_imm {b0 n:Nat}{rc:List Value}(hf:∀o,G.imm b0 o=none) {b o:Nat}{v:Value}(h:G.imm b o=some v):(G.addRow b0 rc n).imm b o=some v:=by
 simp only[Gh.addRow]
 rw[if_neg]
 ·exact h
 ·rintro ⟨rfl,_⟩;rw[hf] at h;cases h
theorem addRow_at {b0 n:Nat}{rc:List Value}{o:Nat}(h:o<n):(G.addRow b0 rc n).imm b0 o=rc[o]?:=by simp[Gh.addRow,h]
theorem SR.addRow (h:SR X N G st a w) {b0 n:Nat}{rc:List Value}{t:TypeId}{f:Nat×Nat}(hb:w.heap[b0]?=some (.cells ⟨rc⟩ t f)) (hfr:Fresh G b0):SR X N (G.addRow b0 rc n) st a w:=by
 have m:∀b o v,G.imm b o=some v→(G.addRow b0 rc n).imm b o=some v:=fun b o v h=>addRow_imm hfr.imm h
 have mo:∀{o ro},ORel X G o ro→ORel X (G.addRow b0 rc n) o ro:=fun h=>h.mono m (fun _ _ h=>h)
 exact {
  size:=h.size
  env:=fun i v c e=>⟨(h.env i v c e).1.mono m (fun _ _ h=>h) (fun _ _ h=>h),(h.env i v c e).2⟩
  own:=h.own
  lk:=fun i l hm=>by have:=h.lk i l hm;cases l<;>exact this
  lb:=fun k hn=>by obtain⟨b,ro,h1,h2,h3⟩:=h.lb k hn;exact⟨b,ro,h1,h2,mo h3⟩
  lbown:=h.lbown
  lbdom:=h.lbdom
  mr:={ bx:=fun k hn=>by obtain⟨b,ro,h1,h2,h3⟩:=h.mr.bx k hn;exact⟨b,ro,h1,h2,mo h3⟩,own:=h.mr.own,dom:=h.mr.dom,hid:=h.mr.hid }
  wf:={
   imm:=fun b o v e=>by
    simp only[Gh.addRow] at e
    split at e
    ·rename_i q;obtain⟨rfl,_⟩:=q;rw[cell_of_heap hb];exact e
    ·exact h.wf.imm b o v e
   inj:=h.wf.inj
   linj:=h.wf.linj
   disj:=h.wf.disj
   boxlt:=h.wf.boxlt
   boximm:=fun b o q=>by
    simp only[Gh.addRow]
    rw[if_neg]
    ·exact h.wf.boximm b o q
    ·rintro ⟨rfl,_⟩;exact hfr.box q
   boxow:=h.wf.boxow
   owimm:=fun b o l e=>by
    simp only[Gh.addRow]
    rw[if_neg]
    ·exact h.wf.owimm b o l e
    ·rintro ⟨rfl,_⟩
     have:G.ow b o=some l:=e
     rw[hfr.ow] at this;cases this
   owcell:=h.wf.owcell
   old:=h.wf.old
   glob:=fun g row hr=>(h.wf.glob g row hr).mono m (fun _ _ h=>h)}}
theorem newRow_sound (h:SR X N G st a w) {w':World}{row:List IV}{rc:List Value}{t:TypeId}{f:Nat×Nat}(g:Grown1 w w' (.cells ⟨rc⟩ t f)) {len cap sz:Nat}
  (hl:row.length=len*sz) (hc:rc.length=cap*sz) (hle:len≤cap) (hf:∀i,i<rc.length→¬(f.1≤i∧i<f.2)) (hv:VRs G.pl row (rc.take row.length)) :
  OR X N G w st a (.sl row len) (.own sz) (.slice (some ⟨w.heap.size,0,none⟩) len cap) (G.addRow w.heap.size rc row.length) w':=by
 have hfr:=h.wf.fresh (Nat.le_refl _)
 have hrl:row.length≤rc.length:=by rw[hl,hc];exact Nat.mul_le_mul_right _ hle
 have hsr:=(h.grow g).addRow (n:=row.length) g.new hfr
 refine { sr:=hsr,sv:=?_,step:=?_,free:=?_ }
 ·refine VR.sl row len w.heap.size 0 cap (fun i=>rc.getD i undef) ?_ ?_ hle
  ·intro i hi
   rw[Nat.zero_add,addRow_at hi,List.getElem?_eq_getElem (by omega),List.getD_eq_getElem?_getD,List.getElem?_eq_getElem (by omega)]
   rfl
  ·intro i hi
   have:=hv.2 i hi (by simp;omega)
   rw[List.getElem_take] at this
   rw[List.getD_eq_getElem?_getD,List.getElem?_eq_getElem (by omega)]
   exact VR.mono (G:=G.pl) (G':=(G.addRow w.heap.size rc row.length).pl) (fun b o v h=>addRow_imm hfr.imm h) (fun _ _ h=>h) this
 ·have s:=Step.grow (G:=G) g
  exact { s with
   imm:=fun b o v e=>addRow_imm hfr.imm e
   immNew:=fun b o v hb _ e=>by
    simp only[Gh.addRow] at e
    rw[if_neg (by rintro ⟨rfl,_⟩;omega)] at e
    exact .inl e }
 ·intro sz' e
  simp only[Cap.own.injEq] at e
  subst e
  have bey:∀b j,Beyond (.slice (some ⟨w.heap.size,0,none⟩) len cap) sz b j→b=w.heap.size∧row.length≤j∧j<rc.length:=by
   rintro b j ⟨o,sp,len',cap',e,h1,h2⟩
   simp only[Value.slice.injEq,Option.some.injEq,Addr.mk.injEq] at e
   obtain⟨⟨rfl,rfl,rfl⟩,rfl,rfl⟩:=e
   exact⟨rfl,by omega,by omega⟩
  refine { spot:=?_,mine:=?_,ow:=?_,imm:=?_,box:=?_,cell:=?_ }
  ·intro b o sp len cap e
   simp only[Value.slice.injEq,Option.some.injEq,Addr.mk.injEq] at e
   exact e.1.2.2.symm
  ·intro b j hb;obtain⟨rfl,_,_⟩:=bey b j hb;exact .inl (Nat.le_refl _)
  ·intro b j hb;obtain⟨rfl,_,_⟩:=bey b j hb;exact hfr.ow j
  ·intro b j hb
   obtain⟨rfl,h1,_⟩:=bey b j hb
   simp only[Gh.addRow]
   rw[if_neg (by rintro ⟨_,h2⟩;omega)]
   exact hfr.imm j
  ·intro b j hb;obtain⟨rfl,_,_⟩:=bey b j hb;exact hfr.box
  ·intro b j hb
   obtain⟨rfl,_,h2⟩:=bey b j hb
   refine⟨by rw[cell_of_heap g.new,List.getElem?_eq_getElem h2];rfl,?_⟩
   rw[frozen_of_heap g.new]
   cases hq:(decide (f.1≤j)&&decide (j<f.2)) with
   |false=>rfl
   |true=>simp at hq;exact absurd hq (hf j h2)
theorem newL_sound (h : SR X N G st a w) {w' : World} {o : BObj} {ro : Obj} (g : Grown1 w w' ro) {k : Nat} {v : IV} {c : Cap} {st' : St} (hr : newL st k o = some (v, c, st')) (hro : ORel X G o ro) (hne : o ≠ .none)
    (hown : ∀ (cs : List IV) (cp : List Cap) (off sz : Nat), o = .cells cs cp → cp[off]? = some (.own sz) → cs[off]? = some .nilSlice) :
    ∃ G', OR X N G w st' a v c (.pointer (some ⟨w.heap.size, 0, none⟩)) G' w' := by
  unfold newL at hr
  split at hr
  · rename_i hnone
    simp only [Option.some.injEq, Prod.mk.injEq] at hr
    obtain ⟨rfl, rfl, rfl⟩ := hr
    have hfr := h.wf.fresh (Nat.le_refl _)
    have hk : G.lb k = none := by
      cases e : G.lb k with
      | none => rfl
      | some b => exact absurd hnone (h.lbdom k b e)
    have h1 := h.grow g
    refine ⟨{ G with lb := fun j => if j = k then some w.heap.size else G.lb j }, ?_⟩
    have m : ∀ j b, G.lb j = some b → (if j = k then some w.heap.size else G.lb j) = some b := fun j b e => by
      rw [if_neg]; · exact e
      · rintro rfl; rw [hk] at e; cases e
    have mo : ∀ {o ro}, ORel X G o ro → ORel X { G with lb := fun j => if j = k then some w.heap.size else G.lb j } o ro := fun h =>
      ORel.mono (G := G) (G' := { G with lb := fun j => if j = k then some w.heap.size else G.lb j }) (fun _ _ _ h => h) (fun _ _ h => h) h
    have hbox : ∀ b, Gh.boxed { G with lb := fun j => if j = k then some w.heap.size else G.lb j } b → G.boxed b ∨ b = w.heap.size := by
      rintro b (⟨id, e⟩ | ⟨j, e⟩)
      · exact .inl (.inl ⟨id, e⟩)
      · simp only at e
        split at e
        · simp only [Option.some.injEq] at e; exact .inr e.symm
        · exact .inl (.inr ⟨j, e⟩)
    refine { sr := ?_, sv := ⟨w.heap.size, by simp, rfl⟩, step := ?_, free := fun sz e => by cases e }
    · refine { size := h1.size, env := ?_, own := h1.own, lk := ?_, lb := ?_, lbown := ?_, lbdom := ?_, mr := ?_, wf := ?_ }
      · intro i v c e
        exact ⟨SV.mono (G := G) (G' := { G with lb := fun j => if j = k then some w.heap.size else G.lb j }) (fun _ _ _ h => h) (fun _ _ h => h) m (h1.env i v c e).1, (h1.env i v c e).2⟩
      · intro i l hm
        have := h1.lk i l hm
        cases l with
        | L k' off => obtain ⟨b, e1, e2⟩ := this; exact ⟨b, m _ _ e1, e2⟩
        | _ => exact this
      · intro k' hn
        rw [lookL_cons] at hn ⊢
        by_cases e : k = k'
        · subst e
          rw [if_pos rfl]
          exact ⟨w.heap.size, ro, by simp, g.new, mo hro⟩
        · rw [if_neg e] at hn ⊢
          obtain ⟨b, ro', e1, e2, e3⟩ := h1.lb k' hn
          exact ⟨b, ro', m _ _ e1, e2, mo e3⟩
      · intro k' cs cp off sz e1 e2 b r e3 e4
        rw [lookL_cons] at e1
        by_cases e : k = k'
        · subst e
          rw [if_pos rfl] at e1
          simp only [if_true, Option.some.injEq] at e3
          subst e3
          have hnil := hown cs cp off sz e1 e2
          subst e1
          cases hro with
          | cells _ _ rc t f g1 g2 g3 =>
            rw [cell_of_heap g.new] at e4
            obtain ⟨r', hr', hvr⟩ := g1.get hnil
            rw [e4] at hr'
            simp only [Option.some.injEq] at hr'
            subst hr'
            cases hvr
            intro b o sp len cap q
            cases q
        · rw [if_neg e] at e1
          simp only at e3
          rw [if_neg (fun q => e q.symm)] at e3
          exact h1.lbown k' cs cp off sz e1 e2 b r e3 e4
      · intro k' b e
        rw [lookL_cons]
        split
        · exact hne
        · rename_i q
          simp only at e
          rw [if_neg (fun q' => q q'.symm)] at e
          exact h1.lbdom k' b e
      · exact { bx := fun id hn => by obtain ⟨b, ro, e1, e2, e3⟩ := h1.mr.bx id hn; exact ⟨b, ro, e1, e2, mo e3⟩, own := h1.mr.own, dom := h1.mr.dom, hid := h1.mr.hid }
      · refine { imm := h1.wf.imm, inj := h1.wf.inj, linj := ?_, disj := ?_, boxlt := ?_, boximm := ?_, boxow := ?_, owimm := h1.wf.owimm, owcell := h1.wf.owcell, old := h1.wf.old, glob := ?_ }
        · intro i j b e1 e2
          simp only at e1 e2
          split at e1 <;> split at e2
          · subst_vars; rfl
          · simp only [Option.some.injEq] at e1; subst e1; exact absurd (.inr ⟨j, e2⟩) hfr.box
          · simp only [Option.some.injEq] at e2; subst e2; exact absurd (.inr ⟨i, e1⟩) hfr.box
          · exact h1.wf.linj i j b e1 e2
        · intro i j b e1 e2
          simp only at e2
          split at e2
          · simp only [Option.some.injEq] at e2; subst e2; exact hfr.box (.inl ⟨i, e1⟩)
          · exact h1.wf.disj i j b e1 e2
        · intro b q
          rcases hbox b q with q | rfl
          · exact h1.wf.boxlt b q
          · have := g.size; omega
        · intro b o q
          rcases hbox b q with q | rfl
          · exact h1.wf.boximm b o q
          · exact hfr.imm o
        · intro b o q
          rcases hbox b q with q | rfl
          · exact h1.wf.boxow b o q
          · exact hfr.ow o
        · intro g' row hr
          exact VR.mono (G := G) (G' := { G with lb := fun j => if j = k then some w.heap.size else G.lb j }) (fun _ _ _ h => h) (fun _ _ h => h) (h1.wf.glob g' row hr)
    · have s := Step.grow (G := G) g
      exact { os := s.os, tape := s.tape, output := s.output, size := s.size, imm := s.imm, bx := s.bx, other := s.other, cells := s.cells, immNew := s.immNew, owNew := s.owNew, bxNew := s.bxNew, loop := s.loop, hid := rfl, old := rfl,
              boxNew := fun b hb q => by
                rcases q with ⟨id, e, e'⟩ | ⟨j, e⟩
                · exact .inl ⟨id, e, e'⟩
                · simp only at e
                  split at e
                  · simp only [Option.some.injEq] at e; omega
                  · exact .inr ⟨j, e⟩ }
  · cases hr
theorem newG_sound (h:SR X N G st a w) {w':World}{o:BObj}{ro:Obj}(g:Grown1 w w' ro) {v0 v:IV}{c:Cap}{st':St}(hr:newG st o v0=some (v,c,st')) (hro:ORel X G o ro) (hne:o ≠ .none)
  (hown:∀(cs:List IV) (cp:List Cap) (off sz:Nat),o=.cells cs cp→cp[off]?=some (.own sz)→cs[off]?=some .nilSlice) {r:Value}
  (hv0:∀G':Gh,G'.bx st.m.size=some w.heap.size→SV G' v0 r) :
  ∃G',OR X N G w st' a v c r G' w':=by
 unfold newG at hr
 simp only[IM.push,frc_eq,Option.some.injEq,Prod.mk.injEq] at hr
 obtain⟨rfl,rfl,rfl⟩:=hr
 have hfr:=h.wf.fresh (Nat.le_refl _)
 have h1:=h.grow g
 obtain⟨G',hG'⟩:∃G':Gh,G'={ G with bx:=fun j=>if j=st.m.size then some w.heap.size else G.bx j }:=⟨_,rfl⟩
 have m:∀j b,G.bx j=some b→G'.bx j=some b:=fun j b e=>by
  subst hG'
  simp only
  rw[if_neg];· exact e
  ·rintro rfl;have:=h.mr.dom _ _ e;omega
 have mi:∀b o v,G.imm b o=some v→G'.imm b o=some v:=by subst hG';exact fun _ _ _ h=>h
 have mo:∀{o ro},ORel X G o ro→ORel X G' o ro:=fun h=>h.mono mi m
 have hnew:G'.bx st.m.size=some w.heap.size:=by subst hG';simp
 have hold:∀j b,G'.bx j=some b→(j=st.m.size∧b=w.heap.size)∨G.bx j=some b:=by
  intro j b e
  subst hG'
  simp only at e
  split at e
  ·rename_i q;simp only[Option.some.injEq] at e;exact .inl ⟨q,e.symm⟩
  ·exact .inr e
 have hlb:G'.lb=G.lb:=by subst hG';rfl
 have hHid:G'.hid=G.hid:=by subst hG';rfl
 have hOld:G'.old=G.old:=by subst hG';rfl
 have hbox:∀b,G'.boxed b→G.boxed b∨b=w.heap.size:=by
  rintro b (⟨id,e⟩ | ⟨j,e⟩)
  ·rcases hold id b e with ⟨_,q⟩ | q
   ·exact .inr q
   ·exact .inl (.inl ⟨id,q⟩)
  ·rw[hlb] at e;exact .inl (.inr ⟨j,e⟩)
 have hget:∀j,IM.get { st.m with bs:=st.m.bs++[o]} j=if j=st.m.size then o else st.m.get j:=by
  intro j
  simp only[IM.get,IM.size,List.getD_eq_getElem?_getD]
  split
  ·rename_i q;subst q;simp
  ·rename_i q
   rcases Nat.lt_or_ge j st.m.bs.length with q2 | q2
   ·rw[List.getElem?_append_left q2]
   ·rw[List.getElem?_eq_none (by simp;omega),List.getElem?_eq_none q2]
 have hOw:∀{l sz r},OwnAt G l sz r→OwnAt G' l sz r:=by subst hG';exact fun h=>h
 refine⟨G',{ sr:=?_,sv:=hv0 G' hnew,step:=?_,free:=fun sz e=>by cases e }⟩
 ·refine { size:=h1.size,env:=?_,own:=fun i v sz e=>hOw (h1.own i v sz e),lk:=?_,lb:=?_,lbown:=?_,lbdom:=?_,mr:=?_,wf:=?_ }
  ·intro i v c e
   exact⟨(h1.env i v c e).1.mono mi m (by rw[hlb];exact fun _ _ h=>h),(h1.env i v c e).2⟩
  ·intro i l hm
   have:=h1.lk i l hm
   cases l with
   |B k' off=>obtain⟨b,e1,e2⟩:=this;exact⟨b,m _ _ e1,e2⟩
   |L k' off=>obtain⟨b,e1,e2⟩:=this;exact⟨b,by rw[hlb];exact e1,e2⟩
   |slot j=>exact this
   |marked=>exact fun b o sp len cap e=>(this b o sp len cap e).same hOld
  ·intro k hn
   obtain⟨b,ro',e1,e2,e3⟩:=h1.lb k hn
   exact⟨b,ro',by rw[hlb];exact e1,e2,mo e3⟩
  ·intro k cs cp off sz e1 e2 b r e3 e4
   rw[hlb] at e3
   exact hOw (h1.lbown k cs cp off sz e1 e2 b r e3 e4)
  ·intro k b e;rw[hlb] at e;exact h1.lbdom k b e
  ·refine { bx:=?_,own:=?_,dom:=?_,hid:=?_ }
   ·intro id hn
    rw[hget] at hn ⊢
    split at hn
    ·rename_i q;subst q
     rw[if_pos rfl]
     exact⟨w.heap.size,ro,hnew,g.new,mo hro⟩
    ·rename_i q
     rw[if_neg q]
     obtain⟨b,ro',e1,e2,e3⟩:=h1.mr.bx id hn
     exact⟨b,ro',m _ _ e1,e2,mo e3⟩
   ·intro id cs cp off sz e1 e2 b r e3 e4
    rw[hget] at e1
    split at e1
    ·rename_i q;subst q
     rw[hnew] at e3
     simp only[Option.some.injEq] at e3
     subst e3
     have hnil:=hown cs cp off sz e1 e2
     subst e1
     cases hro with
     |cells _ _ rc t f g1 g2 g3 =>
      rw[cell_of_heap g.new] at e4
      obtain⟨r',hr',hvr⟩:=g1.get hnil
      rw[e4] at hr'
      simp only[Option.some.injEq] at hr'
      subst hr'
      cases hvr
      intro b o sp len cap q
      cases q
    ·rename_i q
     rcases hold id b e3 with ⟨q2,_⟩ | e3
     ·exact absurd q2 q
     ·exact hOw (h1.mr.own id cs cp off sz e1 e2 b r e3 e4)
   ·intro id b e
    simp only[IM.size,List.length_append,List.length_singleton]
    rcases hold id b e with ⟨rfl,_⟩ | e
    ·simp[IM.size]
    ·have:=h1.mr.dom id b e;simp only[IM.size] at this;omega
   ·intro id e
    rw[hHid] at e
    obtain⟨q1,q2⟩:=h.mr.hid id e
    rw[hget,if_neg (by omega)]
    exact⟨by simp only[IM.size,List.length_append,List.length_singleton] at q1 ⊢;omega,q2⟩
  ·refine { imm:=?_,inj:=?_,linj:=by rw[hlb];exact h1.wf.linj,disj:=?_,boxlt:=?_,boximm:=?_,boxow:=?_,owimm:=?_,owcell:=?_,old:=by rw[hOld];exact h1.wf.old,glob:=fun g' row hr=>(h1.wf.glob g' row hr).mono mi m }
   ·intro b o v e;refine h1.wf.imm b o v ?_;subst hG';exact e
   ·intro i j b e1 e2
    rcases hold i b e1 with ⟨rfl,rfl⟩ | e1<;>rcases hold j _ e2 with ⟨rfl,e⟩ | e2
    ·rfl
    ·exact absurd (.inl ⟨j,e2⟩) hfr.box
    ·subst e;exact absurd (.inl ⟨i,e1⟩) hfr.box
    ·exact h1.wf.inj i j b e1 e2
   ·intro i k b e1 e2
    rw[hlb] at e2
    rcases hold i b e1 with ⟨rfl,rfl⟩ | e1
    ·exact hfr.box (.inr ⟨k,e2⟩)
    ·exact h1.wf.disj i k b e1 e2
   ·intro b q
    rcases hbox b q with q | rfl
    ·exact h1.wf.boxlt b q
    ·have:=g.size;omega
   ·intro b o q
    have e:G'.imm b o=G.imm b o:=by subst hG';rfl
    rw[e]
    rcases hbox b q with q | rfl
    ·exact h1.wf.boximm b o q
    ·exact hfr.imm o
   ·intro b o q
    have e:G'.ow b o=G.ow b o:=by subst hG';rfl
    rw[e]
    rcases hbox b q with q | rfl
    ·exact h1.wf.boxow b o q
    ·exact hfr.ow o
   ·intro b o l e;subst hG';exact h1.wf.owimm b o l e
   ·intro b o l e;subst hG';exact h1.wf.owcell b o l e
 ·have s:=Step.grow (G:=G) g
  refine { os:=s.os,tape:=s.tape,output:=s.output,size:=s.size,imm:=mi,bx:=m,other:=s.other,cells:=s.cells,immNew:=?_,owNew:=?_,bxNew:=?_,loop:=s.loop,boxNew:=?_,hid:=hHid,old:=hOld }
  ·intro b o v hb nb e;refine s.immNew b o v hb nb ?_;subst hG';exact e
  ·intro b o l hb e;refine s.owNew b o l hb ?_;subst hG';exact e
  ·intro b hb q
   rcases q with ⟨id,e,e'⟩ | ⟨j,e⟩
   ·rcases hold id b e with ⟨_,q⟩ | q
    ·omega
    ·exact .inl ⟨id,q,by rw[hHid] at e';exact e'⟩
   ·rw[hlb] at e;exact .inr ⟨j,e⟩
  ·intro id b e
   rcases hold id b e with ⟨_,rfl⟩ | e
   ·exact .inr (Nat.le_refl _)
   ·exact .inl e
end Go.Idl
namespace Go.Idl
open Classical
variable {X:Ctx}{N:Nat}{G:Gh}{st:St}{a:Act}{w:World}
structure Src (P:Program) (w:World) (size n:Nat) (x:Value) (news:List Value):Prop where
 len:∀w',(Builtin.lenOf x).run P w'=.ok n w'
 cells:(Builtin.firstCells size n x).run P w=.ok ⟨news⟩ w
 drew:(Builtin.firstCells size n x).run P w.drew=.ok ⟨news⟩ w.drew
 count:news.length=n*size
theorem append_notInt {P:Program}{u:TypeId}(hu:P.underlying u=some .string∨∃e',P.underlying u=some (.slice e')) (w:World) :
  ((do pure ((←underlying u) matches .int _):Sem Bool)).run P w=.ok false w:=by
 rcases hu with hu | ⟨e',hu⟩<;>simp[run_und hu]
theorem run_append_room' {P:Program}{t u e ty:TypeId}{d n0 bytes ag} (ht:P.underlying t=some (.slice e)) (hu:P.underlying u=some .string∨∃e',P.underlying u=some (.slice e')) (hs:TyR P e d n0 bytes ag)
  {b o sLen sCap n:Nat}{x:Value}{news:List Value}(hx:Src P w n0 n x news) (hroom:sLen+n≤sCap)
  (hc:∀j,j<news.length→(w.cell? ⟨b,o+sLen*n0+j,none⟩).isSome=true) (hf:∀j,j<news.length→w.frozen? ⟨b,o+sLen*n0+j,none⟩=false) (h1:∀v∈news,v.oneCell'=true) :
  (Builtin.append_ #[t,u] ty #[.slice (some ⟨b,o,none⟩) sLen sCap,x]).run P w=.ok (.slice (some ⟨b,o,none⟩) (sLen+n) sCap) (w.setCells b (o+sLen*n0) news):=by
 have hst:=run_storeCells_cells (P:=P) b (o+sLen*n0) news 0 w (by simpa using hc) (by simpa using hf) h1
 simp only[Nat.add_zero] at hst
 have hz:=append_notInt (P:=P) hu w
 rcases hu with hu | ⟨e',hu⟩ <;>
  simp[Builtin.append_,run_und ht,run_und hu,run_size hs,hx.len,hroom,hx.cells,add_none,hst]
theorem run_append_none' {P:Program}{t u e ty:TypeId}{d n0 bytes ag} (ht:P.underlying t=some (.slice e)) (hu:P.underlying u=some .string∨∃e',P.underlying u=some (.slice e')) (hs:TyR P e d n0 bytes ag)
  {x:Value}{news:List Value}(hx:Src P w n0 0 x news) :
  (Builtin.append_ #[t,u] ty #[.slice none 0 0,x]).run P w=.ok (.slice none 0 0) w:=by
 rcases hu with hu | ⟨e',hu⟩ <;>
  simp[Builtin.append_,run_und ht,run_und hu,run_size hs,hx.len,hx.cells]
theorem run_append_zero' {P:Program}{t u e ty:TypeId}{d n0 bytes ag} (ht:P.underlying t=some (.slice e)) (hu:P.underlying u=some .string∨∃e',P.underlying u=some (.slice e')) (hs:TyR P e d n0 bytes ag)
  {a:Addr}{x:Value}(hx:Src P w n0 0 x []) :
  (Builtin.append_ #[t,u] ty #[.slice (some a) 0 0,x]).run P w=.ok (.slice (some a) 0 0) w:=by
 have hz:=append_notInt (P:=P) hu w
 rcases hu with hu | ⟨e',hu⟩ <;>
  simp[Builtin.append_,run_und ht,run_und hu,run_size hs,hx.len,hx.cells,storeCells]
theorem run_append_grow' {P:Program}{t u e ty:TypeId}{d n0 bytes ag} (ht:P.underlying t=some (.slice e)) (hu:P.underlying u=some .string∨∃e',P.underlying u=some (.slice e')) (hs:TyR P e d n0 bytes ag)
  {z:Value}{i:TypeInfo}(hi:P.info? e=some i) (hz:i.zero=some z) (hb0:bytes≠0)
  {base:Option Addr}{sLen sCap n:Nat}{x:Value}{news olds:List Value}(hx:Src P w n0 n x news) (hg:sCap<sLen+n)
  (hold:(Builtin.firstCells n0 sLen (.slice base sLen sCap)).run P w.drew=.ok ⟨olds⟩ w.drew) (hlen:(sLen+n)*bytes≤maxLenI) :
  ∃cap,sLen+n≤cap∧(Builtin.append_ #[t,u] ty #[.slice base sLen sCap,x]).run P w =
   .ok (.slice (some ⟨w.heap.size,0,none⟩) (sLen+n) cap) (w.drew.alloc (.cells ⟨olds++news++(Builtin.zeroCells z.cells (cap-(sLen+n))).toList⟩ e)):=by
 have hib:i.bytes=bytes∧i.size=n0:=by
  obtain⟨i',h1,h2,h3⟩:=hs.info
  rw[hi] at h1
  simp only[Option.some.injEq] at h1
  subst h1;exact⟨h3,h2⟩
 have hn:¬(sLen+n≤sCap):=by omega
 have hle:sLen+n≤maxLenI:=by
  have:sLen+n≤(sLen+n)*bytes:=Nat.le_mul_of_pos_right _ (Nat.pos_of_ne_zero hb0)
  omega
 have h63':¬(9223372036854775807<((sLen:Int)+(n:Int))):=by unfold maxLenI at hle;omega
 have hfit:Builtin.nextslicecap (sLen+n) sCap*bytes≤281474976710656:=growslice_fits hg (by unfold maxLenI at hlen;omega)
 have h48':¬(281474976710656<Builtin.nextslicecap (sLen+n) sCap*bytes):=by omega
 refine⟨grownCap w (sLen+n) sCap e,grownCap_ge _ _ _ _,?_⟩
 rcases hu with hu | ⟨e',hu⟩
 all_goals
  simp[Builtin.append_,run_und ht,run_und hu,sizeOf,typeInfo,zeroValue,hi,hz,hib.1,hib.2,hx.len,hn,hb0,h63',h48',Question.forced,hx.drew,hold,newRow,grownCap]
  congr 2
  apply Array.ext'
  simp[List.append_assoc]
end Go.Idl
namespace Go.Idl
open Classical
variable {X:Ctx}{N:Nat}{G:Gh}{st:St}{a:Act}{w:World}
def OpRun (P:Program) (o:Oper) (ρ:Operand→Value) (w:World) (r:Value) (w':World):Prop :=
 (execOp ρ o).run P w=.ok (.value r) w'∨((execOp ρ o).run P w=.ok .skip w'∧r=undef)
theorem OR.same (h:SR X N G st a w) {v:IV}{r:Value}(hv:SV G v r):OR X N G w st a v .any r G w :=
 ⟨h,hv,Step.refl _ _,fun _ e=>by cases e⟩
theorem SV.undef (r:Value):SV G .undef r:=VR.undef r
theorem own_move (h:SR X N G st a w) {i sz:Nat}(hc:slotC st.env i=.own sz) {st':St}(hd:st.drop (.slot i)=some st') {v:IV}(hv:SV G v (a.eval (.tmp i))) :
  ∃G',OR X N G w st' a v (.own sz) (a.eval (.tmp i)) G' w:=by
 obtain⟨h1,h2,h3,_⟩:=drop_sound h (l:=.slot i) (sz:=sz) hc (r:=a.tmps.getD i undef) rfl hd
 refine⟨_,h1,?_,h2,fun sz' e=>by cases e;exact h3⟩
 exact SV.mono (G:=G) (G':=G.clear _ _) (fun _ _ _ h=>h) (fun _ _ h=>h) (fun _ _ h=>h) hv
theorem mv_sound (h:SR X N G st a w) (call:CallT) {x:Operand}{x':Arg}{xf lk:Bool}(hx:ArgR X.rows x x') {v:IV}{c:Cap}{st':St}(hr:(IK.mv x' xf lk).run call st=some (v,c,st'))
  (o:Oper) (ho:o.op=.move x∨o.op=.assign x):∃r G',OpRun X.P o a.eval w r w∧OR X N G w st' a v c r G' w:=by
 have hrun:(execOp a.eval o).run X.P w=.ok (.value (a.eval x)) w:=by rcases ho with ho | ho<;>simp[execOp,ho]
 simp only[IK.run] at hr
 split at hr
 ·cases hr
 ·rename_i v0 e0
  have hv:=h.rd hx e0
  split at hr
  ·simp only[Option.some.injEq,Prod.mk.injEq] at hr
   obtain⟨rfl,rfl,rfl⟩:=hr
   exact⟨_,G,.inl hrun,OR.same h hv⟩
  ·rename_i i
   cases hx with
   |tmp =>
    split at hr
    ·split at hr
     ·rename_i sz hc
      split at hr
      ·rename_i st1 hd
       simp only[Option.some.injEq,Prod.mk.injEq] at hr
       obtain⟨rfl,rfl,rfl⟩:=hr
       obtain⟨G',hG⟩:=own_move h hc hd hv
       exact⟨_,G',.inl hrun,hG⟩
      ·cases hr
     ·simp only[Option.some.injEq,Prod.mk.injEq] at hr
      obtain⟨rfl,rfl,rfl⟩:=hr
      exact⟨_,G,.inl hrun,OR.same h hv⟩
    ·simp only[Option.some.injEq,Prod.mk.injEq] at hr
     obtain⟨rfl,rfl,rfl⟩:=hr
     exact⟨_,G,.inl hrun,OR.same h hv⟩
theorem loadI_sound (h:SR X N G st a w) {t:TypeId}{d n bytes ag} (ht:TyR X.P t d n bytes ag) {p v:IV}(hl:loadI st.lb st.m ag n p=some v) {rp:Value}(hp:SV G p rp) :
  ∃r,(Instr.loadAt t rp).run X.P w=.ok r w∧SV G v r∧(ag=false→∃b o,rp=.pointer (some ⟨b,o,none⟩)∧w.cell? ⟨b,o,none⟩=some r):=by
 unfold loadI at hl
 cases ag with
 |true =>
  simp only[frc_eq] at hl
  cases e:cellsAt st.lb st.m p n with
  |none=>rw[e] at hl;cases hl
  |some cs =>
   rw[e] at hl
   simp only[Option.some.injEq] at hl
   subst hl
   obtain⟨b,o,rs,rfl,h1,h2,h3⟩:=cellsAt_sound h e hp
   have hld:(loadCells ⟨b,o,none⟩ n).run X.P w=.ok rs.toArray w:=by
    have:=run_loadCells_list (P:=X.P) w ⟨b,o,none⟩ rs (fun j v e=>by rw[add_none];exact h3 j v e)
    rw[h1.1,h2] at this;exact this
   exact⟨.agg rs.toArray,by simp[Instr.loadAt,Instr.sureAddr,loadVar,run_isAgg' ht,run_size ht,hld],VR.agg' h1,fun e=>by cases e⟩
 |false =>
  simp only at hl
  split at hl
  ·rename_i v' e
   simp only[Option.some.injEq] at hl
   subst hl
   obtain⟨b,o,rs,rfl,h1,h2,h3⟩:=cellsAt_sound h e hp
   obtain⟨r,rs',rfl,hv,hs⟩:=h1.cases_cons
   have hc:=h3 0 r rfl
   rw[Nat.add_zero] at hc
   exact⟨r,by simp[Instr.loadAt,Instr.sureAddr,loadVar,run_isAgg' ht,hc],SV.of hv,fun _=>⟨b,o,rfl,hc⟩⟩
  ·cases hl
theorem run_storeAt' {P:Program}{t:TypeId}{d n bytes ag} (ht:TyR P t d n bytes ag) {b o:Nat}{r:Value}(hn:r.cells.size=n) (hs:(storeCells ⟨b,o,none⟩ r.cells.toList).run P w=.ok () (w.setCells b o r.cells.toList)) :
  (Instr.storeAt t (.pointer (some ⟨b,o,none⟩)) r).run P w=.ok () (w.setCells b o r.cells.toList):=by
 simp[Instr.storeAt,Instr.sureAddr,storeVar,run_size ht,hn,hs]
theorem refsAll_notU {v:IV}{n:Nat}(h:refsAll v.cells=some n):v.isU=false∧v.isL=false:=by
 cases v<;>first | exact⟨rfl,rfl⟩ | (simp[IV.cells,refsAll,IV.refs,IV.plain] at h)
theorem storeI_refs {n:Nat}{p:IV}{vs:List IV}{c:Cap}{st':St}(hs:storeI st n p vs c=some st'):∃k,refsAll vs=some k:=by
 unfold storeI at hs
 split at hs
 ·cases hs
 ·split at hs
  ·split at hs
   ·rename_i h;exact⟨_,h⟩
   ·cases hs
  ·split at hs
   ·rename_i h;exact⟨_,h⟩
   ·cases hs
  ·cases hs
theorem store_any (h:SR X N G st a w) {t:TypeId}{d n bytes ag} (ht:TyR X.P t d n bytes ag) {p v:IV}{c:Cap}{st':St}(hs:storeI st n p v.cells c=some st') {rp r:Value}(hp:SV G p rp) (hv:SV G v r)
  (hc:∀sz,c=.own sz→((∃row len,v=.sl row len)∨v=.nilSlice)∧∀l,locOf p=some l→OwnAt G l sz r) :
  ∃w',(Instr.storeAt t rp r).run X.P w=.ok () w'∧SR X N G st' a w'∧Step G w G w':=by
 obtain⟨k,hk⟩:=storeI_refs hs
 obtain⟨hu,hl⟩:=refsAll_notU hk
 have hcs:=IV.cells_sound (hv.vr hl) hu
 obtain⟨b,o,rfl,h1,h2,h3,h4⟩:=storeI_sound h hs hp hcs (fun sz e=>by
  obtain⟨q1,q2⟩:=hc sz e
  refine⟨r,?_,q2⟩
  rcases q1 with ⟨row,len,rfl⟩ | rfl<;>cases hv<;>rfl)
 refine⟨_,run_storeAt' ht (by have:=hcs.1;simpa[h1] using this) ?_,h3,h4⟩
 rcases h2 w with h2 | h2
 ·exact h2
 ·exact absurd rfl h2
theorem store_sound (h:SR X N G st a w) (call:CallT) {t:TypeId}{d n bytes ag} {x y:Operand}{x' y':Arg}{xf:Bool}(ht:TyR X.P t d n bytes ag) (hx:ArgR X.rows x x') (hy:ArgR X.rows y y') {v:IV}{c:Cap}{st':St}
  (hr:(IK.store n x' y' xf).run call st=some (v,c,st')) (o:Oper) (ho:o.op=.store t x y):∃r w' G',OpRun X.P o a.eval w r w'∧OR X N G w st' a v c r G' w':=by
 have fin:∀{w':World},(Instr.storeAt t (a.eval x) (a.eval y)).run X.P w=.ok () w'→OpRun X.P o a.eval w undef w':=fun h1=>.inr ⟨by simp[execOp,ho,h1],rfl⟩
 simp only[IK.run] at hr
 split at hr
 ·rename_i pa v0 e1 e2
  have hp:=h.rd hx e1
  have hv:=h.rd hy e2
  split at hr
  ·rename_i i
   split at hr
   ·rename_i sz hc
    split at hr
    ·rename_i st1 hd
     split at hr
     ·rename_i st2 hs
      simp only[Option.some.injEq,Prod.mk.injEq] at hr
      obtain⟨rfl,rfl,rfl⟩:=hr
      cases hy with
      |tmp =>
       obtain⟨h1,h2,h3,_⟩:=drop_sound h (l:=.slot i) (sz:=sz) hc (r:=a.eval (.tmp i)) rfl hd
       obtain⟨l,hl⟩:∃l,l=(locOf pa).getD .marked:=⟨_,rfl⟩
       have h4:=h1.take h3 l
       have hp':SV ((G.clear (a.eval (.tmp i)) sz).take (a.eval (.tmp i)) sz l) pa (a.eval x) :=
        SV.take (SV.mono (G:=G) (G':=G.clear _ _) (fun _ _ _ h=>h) (fun _ _ h=>h) (fun _ _ h=>h) hp)
       have hv':SV ((G.clear (a.eval (.tmp i)) sz).take (a.eval (.tmp i)) sz l) v0 (a.eval (.tmp i)) :=
        SV.take (SV.mono (G:=G) (G':=G.clear _ _) (fun _ _ _ h=>h) (fun _ _ h=>h) (fun _ _ h=>h) hv)
       obtain⟨w',h5,h6,h7⟩:=store_any h4 ht hs hp' hv' (fun sz' e=>by
        unfold capSl at e
        refine⟨?_,fun l' hl'=>?_⟩
        ·split at e
         ·exact .inl ⟨_,_,rfl⟩
         ·exact .inr rfl
         ·cases e
        ·have:sz'=sz:=by split at e<;>cases e<;>rfl
         subst this
         have:l=l':=by rw[hl,hl'];rfl
         subst this
         intro b o' sp len cap e'
         refine⟨h3.spot b o' sp len cap e',fun j hj1 hj2=>?_⟩
         simp only[Gh.take]
         rw[if_pos ⟨o',sp,len,cap,e',hj1,hj2⟩])
       exact⟨undef,w',_,fin h5,h6,SV.undef _,((h2.take h3 l).trans h7),fun _ e=>by cases e⟩
     ·cases hr
    ·cases hr
   ·split at hr
    ·rename_i st2 hs
     simp only[Option.some.injEq,Prod.mk.injEq] at hr
     obtain⟨rfl,rfl,rfl⟩:=hr
     obtain⟨w',h5,h6,h7⟩:=store_any h ht hs hp hv (fun _ e=>by cases e)
     exact⟨undef,w',G,fin h5,h6,SV.undef _,h7,fun _ e=>by cases e⟩
    ·cases hr
  ·split at hr
   ·rename_i st2 hs
    simp only[Option.some.injEq,Prod.mk.injEq] at hr
    obtain⟨rfl,rfl,rfl⟩:=hr
    obtain⟨w',h5,h6,h7⟩:=store_any h ht hs hp hv (fun _ e=>by cases e)
    exact⟨undef,w',G,fin h5,h6,SV.undef _,h7,fun _ e=>by cases e⟩
   ·cases hr
 ·cases hr
theorem zipCap_own:∀(cs:List IV) (cp:List Cap) (off sz:Nat),(zipCap cs cp)[off]?=some (.own sz)→cs[off]?=some .nilSlice
 |[],_,off,sz,h=>by simp[zipCap] at h
 |v::vs,[],off,sz,h=>by
  cases off with
  |zero=>simp[zipCap] at h
  |succ off=>simp only[zipCap,List.getElem?_cons_succ] at h ⊢;exact zipCap_own vs [] off sz h
 |v::vs,c::cs,off,sz,h=>by
  cases off with
  |zero =>
   simp only[zipCap,List.getElem?_cons_zero,Option.some.injEq] at h ⊢
   split at h
   ·rfl
   ·cases h
  |succ off=>simp only[zipCap,List.getElem?_cons_succ] at h ⊢;exact zipCap_own vs cs off sz h
theorem zipCap_length:∀(cs:List IV) (cp:List Cap),(zipCap cs cp).length=cs.length
 |[],_=>by simp[zipCap]
 |v::vs,[]=>by simp[zipCap,zipCap_length vs []]
 |v::vs,c::cs=>by simp[zipCap,zipCap_length vs cs]
theorem ORel.new {cs:List IV}{rc:List Value}(t:TypeId) (cp:List Cap) (h:VRs G cs rc):ORel X G (.cells cs (zipCap cs cp)) (.cells ⟨rc⟩ t (0,0)) :=
 .cells _ _ _ _ _ h (fun i _ q=>by omega) (zipCap_length _ _)
theorem run_alloc' {P:Program}{t:TypeId}{zero:List IV}(hz:ZeroR P t zero) (w:World):∃rc,(Instr.alloc t true (.tuple #[])).run P w=.ok (.pointer (some ⟨w.heap.size,0,none⟩)) (w.alloc (.cells ⟨rc⟩ t))∧∀G,VRs G zero rc:=by
 obtain⟨i,v,h1,h2,h3,h4,h5⟩:=hz
 exact⟨v.cells.toList,by simp[Instr.alloc,zeroValue,typeInfo,h1,h2,newVar,newRow],h5⟩
theorem alloc_sound (h:SR X N G st a w) (call:CallT) {t:TypeId}{zero:List IV}(hz:ZeroR X.P t zero) {k:IK}(hk:(∃j cp,k=.allocL j zero cp)∨∃cp,k=.allocG zero cp) {v:IV}{c:Cap}{st':St}
  (hr:k.run call st=some (v,c,st')) (o:Oper) (ho:o.op=.alloc t):∃r w' G',OpRun X.P o a.eval w r w'∧OR X N G w st' a v c r G' w':=by
 obtain⟨rc,h1,h2⟩:=run_alloc' hz w
 have hrun:OpRun X.P o a.eval w (.pointer (some ⟨w.heap.size,0,none⟩)) (w.alloc (.cells ⟨rc⟩ t)):=.inl (by simp[execOp,ho,h1])
 rcases hk with ⟨j,cp,rfl⟩ | ⟨cp,rfl⟩
 ·obtain⟨G',hG⟩:=newL_sound h (Grown1.alloc w (.cells ⟨rc⟩ t)) (by simpa only[IK.run] using hr) (ORel.new t cp (h2 G)) (by simp) (fun cs cp' off sz e1 e2=>by cases e1;exact zipCap_own _ _ _ _ e2)
  exact⟨_,_,G',hrun,hG⟩
 ·obtain⟨G',hG⟩:=newG_sound (v0:=.pB st.m.size 0) h (Grown1.alloc w (.cells ⟨rc⟩ t)) (by simpa only[IK.run] using hr) (ORel.new t cp (h2 G)) (by simp) (fun cs cp' off sz e1 e2=>by cases e1;exact zipCap_own _ _ _ _ e2)
   (r:=.pointer (some ⟨w.heap.size,0,none⟩)) (fun G' e=>VR.pB _ _ _ e)
  exact⟨_,_,G',hrun,hG⟩
theorem box_sound (h:SR X N G st a w) (call:CallT) {t:TypeId}{n:Nat}{x:Operand}{x':Arg}(hx:ArgR X.rows x x') {k:IK}(hk:(∃j,k=.boxL j n x')∨k=.boxG n x') {v:IV}{c:Cap}{st':St}
  (hr:k.run call st=some (v,c,st')) (o:Oper) (ho:o.op=.box t x):∃r w' G',OpRun X.P o a.eval w r w'∧OR X N G w st' a v c r G' w':=by
 have hrun:OpRun X.P o a.eval w (.pointer (some ⟨w.heap.size,0,none⟩)) (w.alloc (.cells (a.eval x).cells t)):=.inl (by simp[execOp,ho,Instr.box,newVar,newRow])
 have hcell:∀{v0:IV}{q:Nat},SV G v0 (a.eval x)→refsAll v0.cells=some q→VRs G v0.cells (a.eval x).cells.toList:=fun hv hq =>
  IV.cells_sound (hv.vr (refsAll_notU hq).2) (refsAll_notU hq).1
 rcases hk with ⟨j,rfl⟩ | rfl
 ·simp only[IK.run] at hr
  split at hr
  ·rename_i v0 e
   split at hr
   ·rename_i q hq
    split at hr
    ·have hvs:=hcell (h.rd hx e) hq
     obtain⟨G',hG⟩:=newL_sound h (Grown1.alloc w (.cells (a.eval x).cells t)) hr (ORel.new t [] hvs) (by simp) (fun cs cp' off sz e1 e2=>by cases e1;exact zipCap_own _ _ _ _ e2)
     exact⟨_,_,G',hrun,hG⟩
    ·cases hr
   ·cases hr
  ·cases hr
 ·simp only[IK.run] at hr
  split at hr
  ·rename_i v0 e
   split at hr
   ·rename_i q hq
    split at hr
    ·have hvs:=hcell (h.rd hx e) hq
     obtain⟨G',hG⟩:=newG_sound (v0:=.pB st.m.size 0) h (Grown1.alloc w (.cells (a.eval x).cells t)) hr (ORel.new t [] hvs) (by simp) (fun cs cp' off sz e1 e2=>by cases e1;exact zipCap_own _ _ _ _ e2)
      (r:=.pointer (some ⟨w.heap.size,0,none⟩)) (fun G' e=>VR.pB _ _ _ e)
     exact⟨_,_,G',hrun,hG⟩
    ·cases hr
   ·cases hr
  ·cases hr
end Go.Idl
namespace Go.Idl
open Classical
variable {X:Ctx}{N:Nat}{G:Gh}{st:St}{a:Act}{w:World}
theorem OR.after {G1:Gh}{w1:World}(s:Step G w G1 w1) {st':St}{v:IV}{c:Cap}{r:Value}{G':Gh}{w':World}(h:OR X N G1 w1 st' a v c r G' w'):OR X N G w st' a v c r G' w' :=
 ⟨h.sr,h.sv,s.trans h.step,fun sz e=>by
  have f:=h.free sz e
  refine { spot:=f.spot,ow:=f.ow,imm:=f.imm,box:=f.box,cell:=f.cell,mine:=?_ }
  intro b j hb
  rcases f.mine b j hb with q | q
  ·exact .inl (Nat.le_trans s.size q)
  ·by_cases hlt:b<w.heap.size
   ·obtain⟨l,hl⟩:=Option.isSome_iff_exists.1 q
    exact .inr (s.owNew b j l hlt hl)
   ·exact .inl (by omega)⟩
theorem repl_length (zero:List IV):∀n,(repl zero n).length=n*zero.length
 |0=>by simp[repl]
 |n+1=>by simp[repl,repl_length zero n,Nat.add_mul];omega
theorem repl_get (zero:List IV):∀(n i:Nat),i<n*zero.length→(repl zero n)[i]?=zero[i%zero.length]?
 |0,i,h=>by simp at h
 |n+1,i,h=>by
  simp only[repl]
  by_cases hi:i<zero.length
  ·rw[List.getElem?_append_left hi,Nat.mod_eq_of_lt hi]
  ·rw[List.getElem?_append_right (by omega),repl_get zero n (i-zero.length) (by rw[Nat.add_mul] at h;omega)]
   congr 1
   exact (Nat.mod_eq_sub_mod (by omega)).symm
theorem repl_sound {zero:List IV}{z:Array Value}(hz:VRs G zero z.toList) (len:Nat):VRs G (repl zero len) ((Array.range (len*z.size)).map (z[· % z.size]!)).toList:=by
 have hs:z.size=zero.length:=by rw[←hz.1];simp
 refine VRs.of_forall (by simp[repl_length,hs]) fun i v r e1 e2=>?_
 have hi:i<len*z.size:=by have:=(List.getElem?_eq_some_iff.1 e2).1;simpa using this
 rw[repl_get _ _ _ (by rw[←hs];exact hi)] at e1
 simp[hi] at e2
 have hm:i%z.size<z.size:=Nat.mod_lt _ (by
  rcases Nat.eq_zero_or_pos z.size with q | q
  ·rw[q] at hi;omega
  ·exact q)
 rw[hs] at hm
 obtain⟨r',hr',hv⟩:=hz.get e1
 rw[←hs] at hr'
 rw[←e2]
 have:z[i%z.size]! = r':=by
  have h1:z[i%z.size]?=some r':=by simpa using hr'
  obtain⟨h2,h3⟩:=Array.getElem?_eq_some_iff.1 h1
  rw[getElem!_pos z _ h2,h3]
 rw[this];exact hv
theorem fillI_length:∀(ps:List (Nat×Nat)) (vs cs out:List IV),fillI cs ps vs=some out→out.length=cs.length
 |[],[],cs,out,h=>by simp only[fillI,Option.some.injEq] at h;rw[h]
 |[],_::_,cs,out,h=>by simp[fillI] at h
 |(off,n)::ps,[],cs,out,h=>by simp[fillI] at h
 |(off,n)::ps,v::vs,cs,out,h=>by
  simp only[fillI] at h
  split at h
  ·rename_i hc
   simp only[Bool.and_eq_true,decide_eq_true_eq] at hc
   rw[fillI_length ps vs _ out h,over_length (by omega)]
  ·cases h
theorem zeroCells_run {P:Program}{e:TypeId}{zero:List IV}(hz:ZeroR P e zero):∃z:Value,(∀w,(zeroValue e).run P w=.ok z w)∧(∀G,VRs G zero z.cells.toList)∧z.cells.size=zero.length∧∃i,P.info? e=some i∧i.zero=some z:=by
 obtain⟨i,v,h1,h2,h3,h4,h5⟩:=hz
 exact⟨v,fun w=>by simp[zeroValue,typeInfo,h1,h2],h5,by simpa using h3,i,h1,h2⟩
theorem ZeroR.size {P:Program}{e:TypeId}{zero:List IV}(hz:ZeroR P e zero) {d n b ag} (hs:TyR P e d n b ag):zero.length=n:=by
 obtain⟨i,v,h1,h2,h3,h4,h5⟩:=hz
 obtain⟨i',q1,q2,_⟩:=hs.info
 rw[h1] at q1;simp only[Option.some.injEq] at q1;subst q1
 omega
theorem range_rows {P:Program}{e:TypeId}{zero:List IV}(hz:ZeroR P e zero) {d n b ag} (hs:TyR P e d n b ag) (len:Nat) :
  ∃z:Value,(∀w,(zeroValue e).run P w=.ok z w)∧(∀zc:Array Value,zc=(if len*n=0 then #[] else z.cells)→VRs G (repl zero len) ((Array.range (len*n)).map (zc[· % zc.size]!)).toList):=by
 obtain⟨z,h1,h2,h3,_⟩:=zeroCells_run hz
 have hn:=hz.size hs
 refine⟨z,h1,?_⟩
 rintro zc rfl
 by_cases q:len*n=0
 ·have:repl zero len=[]:=by
   have:=repl_length zero len
   rw[hn,q] at this
   exact List.length_eq_zero_iff.1 this
  rw[this]
  exact⟨by simp[q],fun i hi=>by simp at hi⟩
 ·rw[if_neg q]
  have:=repl_sound (h2 G) len
  rw[h3,hn] at this
  rw[h3,hn];exact this
theorem vr_slI {G:Gh}{row:List IV}{L b:Nat}(h:VR G (.sl row L) (.slice (some ⟨b,0,none⟩) L L)):VR G (.pI row 0) (.pointer (some ⟨b,0,none⟩)):=by
 cases h with
 |sl _ _ _ _ _ g h1 h2 h3=>exact VR.pI row 0 b 0 g h1 h2
 |sl0 a=>exact VR.pI [] 0 b 0 (fun _=>undef) (fun i hi=>by simp at hi) (fun i hi=>by simp at hi)
theorem boxI_sound (h:SR X N G st a w) (call:CallT) {t:TypeId}{n:Nat}{x:Operand}{x':Arg}(hx:ArgR X.rows x x') {v:IV}{c:Cap}{st':St}
  (hr:(IK.boxI n x').run call st=some (v,c,st')) (o:Oper) (ho:o.op=.box t x):∃r w' G',OpRun X.P o a.eval w r w'∧OR X N G w st' a v c r G' w':=by
 simp only[IK.run] at hr
 split at hr
 ·rename_i v0 e
  split at hr
  ·rename_i hall
   obtain⟨hp,hl,hu,hL⟩:=hall
   simp only[Option.some.injEq,Prod.mk.injEq] at hr
   obtain⟨rfl,rfl,rfl⟩:=hr
   have hvs:VRs G v0.cells (a.eval x).cells.toList:=IV.cells_sound ((h.rd hx e).vr hL) hu
   have hrun:OpRun X.P o a.eval w (.pointer (some ⟨w.heap.size,0,none⟩)) (w.alloc (.cells (a.eval x).cells t)):=.inl (by simp[execOp,ho,Instr.box,newVar,newRow])
   generalize (a.eval x).cells=A at *
   obtain⟨rc⟩:=A
   have hlen:rc.length=v0.cells.length:=hvs.1
   have hg:=newRow_sound h (Grown1.alloc w (.cells ⟨rc⟩ t)) (row:=v0.cells) (len:=v0.cells.length) (cap:=v0.cells.length) (sz:=1) (by simp) (by rw[Nat.mul_one];exact hlen) (Nat.le_refl _) (fun i _ q=>by simp at q)
    (by rw[List.take_of_length_le (by omega)];exact hvs.toPl hp)
   exact⟨_,_,_,hrun,{ sr:=hg.sr,sv:=vr_slI hg.sv,step:=hg.step,free:=fun _ q=>by cases q }⟩
  ·cases hr
 ·cases hr
theorem buildSlice_sound (h:SR X N G st a w) (call:CallT) {t e:TypeId}{len n bytes:Nat}{d ag} {ps:Array (Nat×Operand)}{zero:List IV}{parts:List (Nat×Nat)}{as:List Arg}(ht:X.P.underlying t=some (.slice e))
  (hs:TyR X.P e d n bytes ag) (hz:ZeroR X.P e zero) (hp:parts=ps.toList.map fun p=>(p.1*n,n)) (hl:len*n≤2^24) (ha:ArgsR X.rows (ps.toList.map (·.2)) as) {v:IV}{c:Cap}{st':St}
  (hr:(IK.buildSlice n len zero parts as).run call st=some (v,c,st')) (o:Oper) (ho:o.op=.buildSlice t len ps):∃r w' G',OpRun X.P o a.eval w r w'∧OR X N G w st' a v c r G' w'∧∀b o' sp l cp,r=.slice (some ⟨b,o',sp⟩) l cp→Markable G' w' b:=by
 simp only[IK.run] at hr
 split at hr
 ·rename_i vs e1
  split at hr
  ·rename_i cs e2
   split at hr
   ·rename_i hall
    simp only[Option.some.injEq,Prod.mk.injEq] at hr
    obtain⟨rfl,rfl,rfl⟩:=hr
    have hsv:=SVs.of h ha e1
    obtain⟨z,hz1,hz2⟩:=range_rows (G:=G) hz hs len
    replace hz2:=hz2 _ rfl
    have hps:(ps.map fun (i,x)=>(i,a.eval x)).toList=ps.toList.map fun p=>(p.1,a.eval p.2):=by simp
    obtain⟨arr',h3,h4⟩:=fill_sound (G:=G) (fun i=>some (i*n,n)) (ps.toList.map fun p=>(p.1,a.eval p.2)) parts vs (repl zero len) _ cs (by rw[hp];simp)
     (by
      intro j p q e3 e4
      subst hp
      simp only[List.getElem?_map,Option.map_eq_some_iff] at e3 e4
      obtain⟨y,ey,rfl⟩:=e3
      obtain⟨y',ey',rfl⟩:=e4
      rw[ey] at ey'
      simp only[Option.some.injEq] at ey'
      subst ey'
      rfl)
     (by have:=hsv.1;simpa using this.symm)
     (by
      intro j p v e3 e4
      simp only[List.getElem?_map,Option.map_eq_some_iff] at e3
      obtain⟨y,ey,rfl⟩:=e3
      exact hsv.2 j v _ e4 (by simp[ey]))
     hz2 e2
    have hlen:cs.length=len*n:=by rw[fillI_length _ _ _ _ e2,repl_length,hz.size hs]
    have hal:arr'.toList.length=len*n:=by rw[h4.1,hlen]
    have hg:=newRow_sound h (Grown1.alloc w (.cells ⟨arr'.toList⟩ e)) (row:=cs) (len:=len) (cap:=len) (sz:=n) hlen hal (Nat.le_refl _) (fun i _ q=>by simp at q) (by rw[List.take_of_length_le (by omega)];exact h4.toPl hall)
    refine⟨_,_,_,.inl ?_,hg,fun b o' sp l cp q=>?_⟩
    rotate_left
    ·simp only[Value.slice.injEq,Option.some.injEq,Addr.mk.injEq] at q
     obtain⟨⟨rfl,_,_⟩,_,_⟩:=q
     exact⟨_,e,_,(Grown1.alloc w (.cells ⟨arr'.toList⟩ e)).new,.inr ⟨rfl,h.wf.old⟩⟩
    by_cases q:len*n=0
    ·rw[if_pos q] at h3
     simp only[execOp,ho,Instr.buildSlice,Sem.run_bind,run_und ht,run_size hs,Result.andThen_ok,if_neg (show ¬len*n>2^24 by omega),if_pos q,hps,h3,newRow,run_newObj,Sem.run_pure]
     rfl
    ·rw[if_neg q] at h3
     simp only[execOp,ho,Instr.buildSlice,Sem.run_bind,run_und ht,run_size hs,Result.andThen_ok,if_neg (show ¬len*n>2^24 by omega),if_neg q,hz1,hps,h3,newRow,run_newObj,Sem.run_pure]
     rfl
   ·cases hr
  ·cases hr
 ·cases hr
theorem firstCells_sl (h:SR X N G st a w) {row:List IV}{len:Nat}{r:Value}(hv:SV G (.sl row len) r) {n sz:Nat}(hn:n*sz=row.length) :
  ∃rs,VRs G.pl row rs∧∀w':World,(∀b o,w'.cell? ⟨b,o,none⟩=w.cell? ⟨b,o,none⟩)→(Builtin.firstCells sz n r).run X.P w'=.ok ⟨rs⟩ w':=by
 cases hv with
 |sl0 a0 =>
  refine⟨[],VRs.nil,fun w' _=>?_⟩
  have:=run_firstCells_some (P:=X.P) w' sz n a0 0 0 [] (by simpa using hn.symm) (by intro j v e;simp at e)
  simpa using this
 |sl _ _ b o cap g h1 h2 h3 =>
  refine⟨(List.range row.length).map g,VRs.of_forall (by simp) ?_,?_⟩
  ·intro i v r e1 e2
   have hi:i<row.length:=(List.getElem?_eq_some_iff.1 e1).1
   simp[hi] at e2
   subst e2
   obtain⟨_,rfl⟩:=List.getElem?_eq_some_iff.1 e1
   exact h2 i hi
  ·intro w' hw
   have:=run_firstCells_some (P:=X.P) w' sz n ⟨b,o,none⟩ len cap ((List.range row.length).map g) (by simp[hn]) (by
    intro j v e
    have hj:j<row.length:=by have:=(List.getElem?_eq_some_iff.1 e).1;simpa using this
    simp[hj] at e
    subst e
    rw[add_none,hw]
    exact h.wf.imm _ _ _ (h1 j hj))
   simpa using this
theorem bytesCells_sound:∀(s:List UInt8),VRs G (bytesCells s) (s.map fun b=>Value.int .u8 b.toNat)
 |[]=>VRs.nil
 |b::s=>VRs.cons (.int _ _) (bytesCells_sound s)
theorem bytesCells_length:∀(s:List UInt8),(bytesCells s).length=s.length
 |[]=>rfl
 |b::s=>by simp[bytesCells,bytesCells_length s]
theorem srcOf_sound (h:SR X N G st a w) {sz n:Nat}{x:IV}{xs:List IV}(hs:srcOf st.lb st.m sz x=some (xs,n)) {r:Value}(hv:SV G x r) (hlen:xs.length=n*sz):∃news,Src X.P w sz n r news∧VRs G xs news:=by
 unfold srcOf at hs
 split at hs
 ·simp only[Option.some.injEq,Prod.mk.injEq] at hs
  obtain⟨rfl,rfl⟩:=hs
  cases hv
  exact⟨[],⟨fun w'=>rfl,by simp[Builtin.firstCells],by simp[Builtin.firstCells],by simp⟩,VRs.nil⟩
 ·rename_i row k
  simp only[Option.some.injEq,Prod.mk.injEq] at hs
  obtain⟨rfl,rfl⟩:=hs
  obtain⟨rs,h2,h1⟩:=firstCells_sl h hv hlen.symm
  have hl:∀w',(Builtin.lenOf r).run X.P w'=.ok k w':=by cases hv<;>(intro w';rfl)
  exact⟨rs,⟨hl,h1 w (fun _ _=>rfl),h1 w.drew (fun _ _=>rfl),by rw[h2.1];exact hlen⟩,h2.ofPl⟩
 ·rename_i s
  split at hs
  ·rename_i hsz
   subst hsz
   simp only[Option.some.injEq,Prod.mk.injEq] at hs
   obtain⟨rfl,rfl⟩:=hs
   have hr:=hv.str_inv
   subst hr
   have hf:∀w',(Builtin.firstCells 1 s.length (.string ⟨⟨s⟩⟩)).run X.P w'=.ok ⟨s.map fun b=>Value.int .u8 b.toNat⟩ w':=by
    intro w'
    simp only[Builtin.firstCells,Sem.run_pure]
    congr 1
    apply Array.ext'
    simp[ByteArray.extract,ByteArray.copySlice]
   exact⟨s.map fun b=>Value.int .u8 b.toNat,⟨fun w'=>rfl,hf w,hf w.drew,by simp⟩,bytesCells_sound s⟩
  ·cases hs
 ·rename_i id off k sz'
  split at hs
  ·rename_i hsz
   subst hsz
   cases e:cellsAt st.lb st.m (.pB id off) (k*sz') with
   |none=>rw[e] at hs;cases hs
   |some cs =>
    rw[e] at hs
    simp only[Option.some.injEq,Prod.mk.injEq] at hs
    obtain⟨rfl,rfl⟩:=hs
    cases hv with
    |sB _ _ _ _ b cap hb hc =>
     obtain⟨b',o',rs,h1,h2,h3,h4⟩:=cellsAt_sound h e (SV.of (VR.pB id off b hb))
     simp only[Value.pointer.injEq,Option.some.injEq,Addr.mk.injEq,and_true] at h1
     obtain⟨rfl,rfl⟩:=h1
     have hf:∀w',(∀o,w'.cell? ⟨b,o,none⟩=w.cell? ⟨b,o,none⟩)→(Builtin.firstCells sz' k (.slice (some ⟨b,off,none⟩) k cap)).run X.P w'=.ok ⟨rs⟩ w':=by
      intro w' hw
      have:=run_firstCells_some (P:=X.P) w' sz' k ⟨b,off,none⟩ k cap rs (by rw[h2.1,h3]) (by intro j v e;rw[add_none,hw];exact h4 j v e)
      simpa using this
     exact⟨rs,⟨fun w'=>rfl,hf w (fun _=>rfl),hf w.drew (fun _=>rfl),by rw[h2.1,h3]⟩,h2⟩
  ·cases hs
 ·cases hs
end Go.Idl
namespace Go.Idl
open Classical
variable {X:Ctx}{N:Nat}{G:Gh}{st:St}{a:Act}{w:World}
theorem allPlain_one {xs:List IV}{news:List Value}(h:VRs G xs news) (hp:xs.all IV.plain=true):∀v∈news,v.oneCell'=true:=by
 intro r hm
 obtain⟨i,hi,rfl⟩:=List.getElem_of_mem hm
 have hi':i<xs.length:=by rw[←h.1];exact hi
 have hv:=h.2 i hi' hi
 have hpl:=List.all_eq_true.1 hp xs[i] (List.getElem_mem hi')
 generalize xs[i]=v at *
 generalize news[i]=r at *
 cases hv<;>first | rfl | (simp[IV.plain] at hpl)
noncomputable def Gh.addAt (G:Gh) (b0 o0:Nat) (rc:List Value):Gh:={ G with imm:=fun b o=>if b=b0∧o0≤o∧o<o0+rc.length then rc[o-o0]? else G.imm b o }
theorem inplace_sound {G0 : Gh} {w0 : World} (h : SR X N G st a w) (s0 : Step G0 w0 G w) {b o len cap n sz : Nat} {row xs : List IV} {news : List Value}
    (hf : Free G0 w0 G w (.slice (some ⟨b, o, none⟩) len cap) sz) (hv : VR G (.sl row len) (.slice (some ⟨b, o, none⟩) len cap)) (hx : VRs G.pl xs news) (hrow : row.length = len * sz) (hxs : xs.length = n * sz) (hroom : len + n ≤ cap)
    (hm : ∀ j, Beyond (.slice (some ⟨b, o, none⟩) len cap) sz b j → (G0.ow b j).isSome ∨ w0.heap.size ≤ b) :
    ∃ G', OR X N G0 w0 st a (.sl (row ++ xs) (len + n)) (.own sz) (.slice (some ⟨b, o, none⟩) (len + n) cap) G' (w.setCells b (o + len * sz) news) := by
  have hnl : news.length = n * sz := by rw [hx.1, hxs]
  have hcap : (len + n) * sz ≤ cap * sz := Nat.mul_le_mul_right _ hroom
  rw [Nat.add_mul] at hcap
  have bey : ∀ j, j < news.length → Beyond (.slice (some ⟨b, o, none⟩) len cap) sz b (o + len * sz + j) := fun j hj => ⟨o, none, len, cap, rfl, by omega, by omega⟩
  have hcellS : ∀ j, j < news.length → (w.cell? ⟨b, o + len * sz + j, none⟩).isSome = true := fun j hj => (hf.cell b _ (bey j hj)).1
  have hin : ∀ j (hj : j < news.length), (w.setCells b (o + len * sz) news).cell? ⟨b, o + len * sz + j, none⟩ = some news[j] := fun j hj => World.cell?_setCells_in b news _ w hcellS j hj
  have hout : ∀ b' j, ¬ (b' = b ∧ o + len * sz ≤ j ∧ j < o + len * sz + news.length) → (w.setCells b (o + len * sz) news).cell? ⟨b', j, none⟩ = w.cell? ⟨b', j, none⟩ := fun b' j hne =>
    World.cell?_setCells_out b news _ w ⟨b', j, none⟩ (fun e _ => by
      simp only at e ⊢
      by_cases q : j < o + len * sz
      · exact .inl q
      · exact .inr (by by_cases q2 : o + len * sz + news.length ≤ j; · exact q2
                       · exact absurd ⟨e, by omega, by omega⟩ hne))
  have hfz : ∀ x, (w.setCells b (o + len * sz) news).frozen? x = w.frozen? x := World.frozen?_setCells b news _ w
  by_cases hnb : news = []
  ·
    subst hnb
    have : xs = [] := List.length_eq_zero_iff.1 (by have := hx.1; simpa using this.symm)
    subst this
    simp only [List.append_nil, World.setCells]
    have hn0 : n * sz = 0 := by simpa using hxs.symm
    refine ⟨G, h, ?_, s0, fun sz' e => ?_⟩
    · obtain ⟨g, h1, h2, h3, _⟩ := hv.sl_of
      exact VR.sl row (len + n) b o cap g h1 h2 hroom
    · cases e
      have sub : ∀ b' j, Beyond (.slice (some ⟨b, o, none⟩) (len + n) cap) sz b' j → Beyond (.slice (some ⟨b, o, none⟩) len cap) sz b' j := by
        rintro b' j ⟨o', sp, l', c', e, h1, h2⟩
        simp only [Value.slice.injEq, Option.some.injEq, Addr.mk.injEq] at e
        obtain ⟨⟨rfl, rfl, rfl⟩, rfl, rfl⟩ := e
        exact ⟨o, none, len, cap, rfl, by rw [Nat.add_mul] at h1; omega, h2⟩
      exact { spot := fun b' o' sp l c e => by simp only [Value.slice.injEq, Option.some.injEq, Addr.mk.injEq] at e; exact e.1.2.2.symm
              mine := fun b' j hb => hf.mine b' j (sub b' j hb)
              ow := fun b' j hb => hf.ow b' j (sub b' j hb)
              imm := fun b' j hb => hf.imm b' j (sub b' j hb)
              box := fun b' j hb => hf.box b' j (sub b' j hb)
              cell := fun b' j hb => hf.cell b' j (sub b' j hb) }
  · have hpos : 0 < news.length := List.length_pos_iff.2 hnb
    have hbey0 := bey 0 hpos
    have hnbox := hf.box b _ hbey0
    obtain ⟨v0, hv0⟩ := Option.isSome_iff_exists.1 (hcellS 0 hpos)
    have hblt : b < w.heap.size := World.block_lt_of_cell? _ _ hv0
    obtain ⟨rc, t, f, hheap⟩ : ∃ rc t f, w.heap[b]? = some (.cells ⟨rc⟩ t f) := by
      unfold World.cell? at hv0
      split at hv0
      · rename_i c e f hb; exact ⟨c.toList, e, f, hb⟩
      · cases hv0
    have hrl : o + len * sz + news.length ≤ rc.length := by
      have := (hf.cell b _ (bey (news.length - 1) (by omega))).1
      rw [cell_of_heap hheap] at this
      obtain ⟨q, hq⟩ := Option.isSome_iff_exists.1 this
      have := (List.getElem?_eq_some_iff.1 hq).1
      omega
    have hheap' := heap_setCells_same b news (o + len * sz) w rc t f hheap hrl
    have hother : ∀ b', b' ≠ b → (w.setCells b (o + len * sz) news).heap[b']? = w.heap[b']? := fun b' hne => heap_setCells_other b news _ w b' hne
    obtain ⟨G', hG'⟩ : ∃ G', G' = G.addAt b (o + len * sz) news := ⟨_, rfl⟩
    have himm : ∀ b' j v, G.imm b' j = some v → G'.imm b' j = some v := by
      intro b' j v e
      subst hG'
      simp only [Gh.addAt]
      rw [if_neg]
      · exact e
      · rintro ⟨rfl, h1, h2⟩
        have := hf.imm b' j ⟨o, none, len, cap, rfl, by omega, by omega⟩
        rw [this] at e; cases e
    have hbx : G'.bx = G.bx := by subst hG'; rfl
    have hlb : G'.lb = G.lb := by subst hG'; rfl
    have how : G'.ow = G.ow := by subst hG'; rfl
    have hHid : G'.hid = G.hid := by subst hG'; rfl
    have hOld : G'.old = G.old := by subst hG'; rfl
    have hopn : ∀ b', G'.opn b' ↔ G.opn b' := by intro b'; simp only [Gh.opn, hbx, hlb, hHid]
    have hboxed : ∀ b', G'.boxed b' ↔ G.boxed b' := by intro b'; simp only [Gh.boxed, hbx, hlb]
    have mo : ∀ {x ro}, ORel X G x ro → ORel X G' x ro := fun hh => hh.mono himm (by rw [hbx]; exact fun _ _ h => h)
    have mOw : ∀ {l s r}, OwnAt G l s r → OwnAt G' l s r := by intro l s r hh b' o' sp l' c' e; rw [how]; exact hh b' o' sp l' c' e
    refine ⟨G', ⟨?_, ?_, ?_, ?_⟩⟩
    · refine { size := h.size, env := ?_, own := fun i v s e => mOw (h.own i v s e), lk := ?_, lb := ?_, lbown := ?_, lbdom := by rw [hlb]; exact h.lbdom, mr := ?_, wf := ?_ }
      · intro i v c e
        exact ⟨(h.env i v c e).1.mono himm (by rw [hbx]; exact fun _ _ h => h) (by rw [hlb]; exact fun _ _ h => h), (h.env i v c e).2⟩
      · intro i l hm
        have hl := h.lk i l hm
        cases l with
        | slot j => exact hl
        | L k off =>
          obtain ⟨b', e1, e2⟩ := hl
          refine ⟨b', by rw [hlb]; exact e1, ?_⟩
          rw [World.cell?_of_block (hother b' (fun q => hnbox (q ▸ .inr ⟨k, e1⟩)))]; exact e2
        | B k off =>
          obtain ⟨b', e1, e2⟩ := hl
          refine ⟨b', by rw [hbx]; exact e1, ?_⟩
          rw [World.cell?_of_block (hother b' (fun q => hnbox (q ▸ .inl ⟨k, e1⟩)))]; exact e2
        | marked =>
          have q := LinkOK.marked_write (rs := news) ⟨rc, t, f, hheap, hrl⟩ hl
          exact fun b o sp len cap e => (q b o sp len cap e).same hOld
      · intro k hn
        obtain ⟨b', ro, e1, e2, e3⟩ := h.lb k hn
        exact ⟨b', ro, by rw [hlb]; exact e1, by rw [hother b' (fun q => hnbox (q ▸ .inr ⟨k, e1⟩))]; exact e2, mo e3⟩
      · intro k cs cp off s e1 e2 b' r e3 e4
        rw [hlb] at e3
        rw [World.cell?_of_block (hother b' (fun q => hnbox (q ▸ .inr ⟨k, e3⟩)))] at e4
        exact mOw (h.lbown k cs cp off s e1 e2 b' r e3 e4)
      · refine { bx := ?_, own := ?_, dom := by rw [hbx]; exact h.mr.dom, hid := by rw [hHid]; exact h.mr.hid }
        · intro id hn
          obtain ⟨b', ro, e1, e2, e3⟩ := h.mr.bx id hn
          exact ⟨b', ro, by rw [hbx]; exact e1, by rw [hother b' (fun q => hnbox (q ▸ .inl ⟨id, e1⟩))]; exact e2, mo e3⟩
        · intro id cs cp off s e1 e2 b' r e3 e4
          rw [hbx] at e3
          rw [World.cell?_of_block (hother b' (fun q => hnbox (q ▸ .inl ⟨id, e3⟩)))] at e4
          exact mOw (h.mr.own id cs cp off s e1 e2 b' r e3 e4)
      · refine { imm := ?_, inj := by rw [hbx]; exact h.wf.inj, linj := by rw [hlb]; exact h.wf.linj, disj := by rw [hbx, hlb]; exact h.wf.disj, boxlt := ?_, boximm := ?_, boxow := ?_, owimm := ?_, owcell := ?_, old := by rw [hOld]; simpa using h.wf.old, glob := ?_ }
        · intro b' j v e
          subst hG'
          simp only [Gh.addAt] at e
          split at e
          · rename_i q
            obtain ⟨rfl, q1, q2⟩ := q
            obtain ⟨jj, rfl⟩ : ∃ jj, j = o + len * sz + jj := ⟨j - (o + len * sz), by omega⟩
            rw [hin jj (by omega), ← List.getElem?_eq_getElem]
            rw [show o + len * sz + jj - (o + len * sz) = jj by omega] at e
            exact e
          · rename_i q
            rw [hout b' j q]
            exact h.wf.imm b' j v e
        · intro b' q; rw [hboxed] at q; simpa using h.wf.boxlt b' q
        · intro b' j q
          rw [hboxed] at q
          subst hG'
          simp only [Gh.addAt]
          rw [if_neg]
          · exact h.wf.boximm b' j q
          · rintro ⟨rfl, _⟩; exact hnbox q
        · intro b' j q; rw [how]; rw [hboxed] at q; exact h.wf.boxow b' j q
        · intro b' j l e
          rw [how] at e
          subst hG'
          simp only [Gh.addAt]
          rw [if_neg]
          · exact h.wf.owimm b' j l e
          · rintro ⟨rfl, q1, q2⟩
            rw [hf.ow b' j ⟨o, none, len, cap, rfl, by omega, by omega⟩] at e; cases e
        · intro b' j l e
          rw [how] at e
          have hne : ¬ (b' = b ∧ o + len * sz ≤ j ∧ j < o + len * sz + news.length) := by
            rintro ⟨rfl, q1, q2⟩
            rw [hf.ow b' j ⟨o, none, len, cap, rfl, by omega, by omega⟩] at e; cases e
          rw [hout b' j hne, hfz]
          exact h.wf.owcell b' j l e
        · intro g row hr; exact (h.wf.glob g row hr).mono himm (by rw [hbx]; exact fun _ _ h => h)
    · obtain ⟨g, h1, h2, h3, _⟩ := hv.sl_of
      · refine VR.sl (row ++ xs) (len + n) b o cap (fun i => if i < row.length then g i else news.getD (i - row.length) undef) ?_ ?_ hroom
        · intro i hi
          simp only [List.length_append] at hi
          by_cases q : i < row.length
          · rw [if_pos q]; exact himm _ _ _ (h1 i q)
          · rw [if_neg q]
            subst hG'
            simp only [Gh.addAt]
            rw [if_pos ⟨trivial, by omega, by omega⟩, List.getD_eq_getElem?_getD]
            rw [show o + i - (o + len * sz) = i - row.length by omega]
            rw [List.getElem?_eq_getElem (by omega)]
            rfl
        · intro i hi
          simp only [List.length_append] at hi
          by_cases q : i < row.length
          · rw [List.getElem_append_left q, if_pos q]; exact VR.mono (G := G.pl) (G' := G'.pl) himm (fun _ _ h => h) (h2 i q)
          · rw [List.getElem_append_right (by omega), if_neg q, List.getD_eq_getElem?_getD, List.getElem?_eq_getElem (by omega)]
            exact VR.mono (G := G.pl) (G' := G'.pl) himm (fun _ _ h => h) (hx.2 _ _ _)
    ·
      have hb0 : w0.heap.size ≤ b ∨ b < w0.heap.size := by omega
      refine { os := by simp [s0.os], tape := by simp [s0.tape], output := by simp [s0.output], size := by simp [s0.size], imm := fun b' j v e => himm _ _ _ (s0.imm _ _ _ e), bx := fun i b' e => by rw [hbx]; exact s0.bx _ _ e,
               other := ?_, cells := ?_, loop := fun b' L e => (by
                 obtain ⟨L', e'⟩ := s0.loop b' L e
                 exact ⟨L', by rw [hother b' (fun q => by subst q; rw [hheap] at e'; cases e')]; exact e'⟩), immNew := ?_, owNew := fun b' j l hb e => by rw [how] at e; exact s0.owNew b' j l hb e, boxNew := fun b' hb q => s0.boxNew b' hb ((hopn b').1 q), hid := by rw [hHid]; exact s0.hid, old := by rw [hOld]; exact s0.old, bxNew := fun i b' e => by rw [hbx] at e; exact s0.bxNew i b' e }
      · intro b' x e nb nc
        have := s0.other b' x e nb nc
        rw [hother b' (fun q => by subst q; rw [this] at hheap; simp only [Option.some.injEq] at hheap; exact nc _ _ _ hheap)]
        exact this
      · intro b' c t' f' e nb
        obtain ⟨c1, f1, e1, e2, e3, e4⟩ := s0.cells b' c t' f' e nb
        by_cases q : b' = b
        · subst q
          rw [hheap] at e1
          simp only [Option.some.injEq, Obj.cells.injEq] at e1
          obtain ⟨rfl, rfl, rfl⟩ := e1
          refine ⟨_, _, hheap', ?_, fun i hi => ?_, e4⟩
          · simp only [List.size_toArray] at e2 ⊢; simp; omega
          · rw [← e3 i hi]
            simp only [List.getElem?_toArray]
            rw [overR_get hrl]
            by_cases q1 : i < o + len * sz
            · rw [if_pos q1]
            · rw [if_neg q1]
              by_cases q2 : i < o + len * sz + news.length
              · exfalso
                rcases hm i ⟨o, none, len, cap, rfl, by omega, by omega⟩ with q3 | q3
                · rw [hi] at q3; cases q3
                · have := heap_lt e; omega
              · rw [if_neg q2]
        · exact ⟨c1, f1, by rw [hother b' q]; exact e1, e2, e3, e4⟩
      · intro b' j v hb nb e
        subst hG'
        simp only [Gh.addAt] at e
        split at e
        · rename_i q
          obtain ⟨rfl, q1, q2⟩ := q
          rcases hm j ⟨o, none, len, cap, rfl, by omega, by omega⟩ with q3 | q3
          · exact .inr q3
          · omega
        · exact s0.immNew b' j v hb nb e
    · intro sz' e
      cases e
      have sub : ∀ b' j, Beyond (.slice (some ⟨b, o, none⟩) (len + n) cap) sz b' j → Beyond (.slice (some ⟨b, o, none⟩) len cap) sz b' j ∧ b' = b ∧ o + len * sz + news.length ≤ j := by
        rintro b' j ⟨o', sp, l', c', e, h1, h2⟩
        simp only [Value.slice.injEq, Option.some.injEq, Addr.mk.injEq] at e
        obtain ⟨⟨rfl, rfl, rfl⟩, rfl, rfl⟩ := e
        rw [Nat.add_mul] at h1
        exact ⟨⟨o, none, len, cap, rfl, by omega, h2⟩, rfl, by omega⟩
      refine { spot := fun b' o' sp l c e => by simp only [Value.slice.injEq, Option.some.injEq, Addr.mk.injEq] at e; exact e.1.2.2.symm, mine := fun b' j hb => hf.mine b' j (sub b' j hb).1, ow := fun b' j hb => by rw [how]; exact hf.ow b' j (sub b' j hb).1, imm := ?_, box := fun b' j hb q => hf.box b' j (sub b' j hb).1 ((hboxed b').1 q), cell := ?_ }
      · intro b' j hb
        obtain ⟨q1, rfl, q2⟩ := sub b' j hb
        subst hG'
        simp only [Gh.addAt]
        rw [if_neg (by rintro ⟨_, _, q3⟩; omega)]
        exact hf.imm b' j q1
      · intro b' j hb
        obtain ⟨q1, rfl, q2⟩ := sub b' j hb
        rw [hout b' j (by rintro ⟨_, _, q3⟩; omega), hfz]
        exact hf.cell b' j q1
theorem owner_rv (h:SR X N G st a w) {x:Operand}{x':Arg}(hx:ArgR X.rows x x') {sz:Nat}{l:Loc}(ho:st.owner x' sz=some l):st.capAt l=.own sz∧RvAt G a w l (a.eval x):=by
 unfold St.owner at ho
 split at ho
 ·rename_i i
  cases hx with
  |tmp =>
   split at ho
   ·rename_i sz' hc
    split at ho
    ·rename_i e
     subst e
     simp only[Option.some.injEq] at ho
     subst ho
     exact⟨hc,rfl⟩
    ·cases ho
   ·split at ho
    ·rename_i l' e
     split at ho
     ·rename_i hc
      simp only[Option.some.injEq] at ho
      subst ho
      refine⟨hc,?_⟩
      have hm:∀(lk:List (Nat×Loc)),linkOf lk i=some l'→(i,l')∈lk:=by
       intro lk
       induction lk with
       |nil=>intro e;cases e
       |cons p lk ih =>
        obtain⟨j,q⟩:=p
        intro e2
        rw[linkOf] at e2
        split at e2
        ·rename_i hb
         have:=Nat.eq_of_beq_eq_true hb
         cases e2
         rw[this]
         exact List.mem_cons_self
        ·exact List.mem_cons_of_mem _ (ih e2)
      have hl:=h.lk i l' (hm _ e)
      cases l' with
      |slot j=>exact hl.symm
      |L k off=>exact hl
      |B k off=>exact hl
      |marked=>simp[St.capAt] at hc
     ·cases ho
    ·cases ho
 ·cases ho
theorem append_sound (h:SR X N G st a w) (call:CallT) {t u e:TypeId}{x y:Operand}{x' y':Arg}{zero:List IV}{d:TypeDesc}{n bytes:Nat}{ag:Bool}(ht:X.P.underlying t=some (.slice e))
  (hu:X.P.underlying u=some .string∨∃e',X.P.underlying u=some (.slice e')) (hs:TyR X.P e d n bytes ag) (hb:bytes≠0) (hn:n≠0) (hz:ZeroR X.P e zero) (h1:ArgR X.rows x x') (h2:ArgR X.rows y y')
  {v:IV}{c:Cap}{st':St}(hr:(IK.append n bytes x' y').run call st=some (v,c,st')) (o:Oper) (ho:o.op=.call ⟨.builtin .append,#[x,y],#[t,u]⟩) :
  ∃r w' G',OpRun X.P o a.eval w r w'∧OR X N G w st' a v c r G' w':=by
 have fin:∀{r:Value}{w':World},(Builtin.append_ #[t,u] o.type #[a.eval x,a.eval y]).run X.P w=.ok r w'→OpRun X.P o a.eval w r w':=fun q =>
  .inl (by simp only[execOp,ho,resolve,Sem.run_bind,Sem.run_pure,Result.andThen_ok,invoke,builtin];simp[q])
 have fin':∀{r:Value}{w':World},(Builtin.append_ #[t,u] o.type #[a.eval x,a.eval y]).run X.P w=.ok r w'→OpRun X.P o a.eval w r w':=fin
 obtain⟨z,hz1,hz2,hz3,i,hi1,hi2⟩:=zeroCells_run hz
 have hzn:=hz.size hs
 simp only[IK.run] at hr
 split at hr
 ·rename_i xv sv e1 e2
  have hyv:=h.rd h2 e1
  have hxv:=h.rd h1 e2
  split at hr
  ·cases hr
  ·rename_i xs k e3
   split at hr
   ·rename_i hpl
    simp only[Bool.and_eq_true,beq_iff_eq] at hpl
    obtain⟨hpl,hcount⟩:=hpl
    obtain⟨news,hsrc,hnews⟩:=srcOf_sound h e3 hyv hcount
    have hone:=allPlain_one hnews hpl
    split at hr
    ·
     have hnil:a.eval x=.slice none 0 0:=by generalize a.eval x=q at hxv;cases hxv;rfl
     rw[hnil] at fin
     split at hr
     ·rename_i hk
      subst hk
      simp only[Option.some.injEq,Prod.mk.injEq] at hr
      obtain⟨rfl,rfl,rfl⟩:=hr
      refine⟨_,w,G,fin (run_append_none' ht hu hs hsrc),⟨h,VR.nilSlice,Step.refl _ _,fun sz q=>?_⟩⟩
      have nb:∀b j,¬Beyond (.slice none 0 0) sz b j:=by rintro b j ⟨_,_,_,_,e,_⟩;cases e
      exact { spot:=fun b o sp l c e=>(by cases e),mine:=fun b j q=>(nb b j q).elim,ow:=fun b j q=>(nb b j q).elim,imm:=fun b j q=>(nb b j q).elim,box:=fun b j q=>(nb b j q).elim,cell:=fun b j q=>(nb b j q).elim }
     ·rename_i hk
      split at hr
      ·rename_i hbd
       simp only[Option.some.injEq,Prod.mk.injEq] at hr
       obtain⟨rfl,rfl,rfl⟩:=hr
       obtain⟨cap,hcap,hrun⟩:=run_append_grow' (w:=w) (ty:=o.type) ht hu hs hi1 hi2 hb (base:=none) (sLen:=0) (sCap:=0) (n:=k) hsrc (by omega) (olds:=[]) (by simp[Builtin.firstCells]) (by simpa using hbd)
       rw[Nat.zero_add] at hrun hcap
       have hg:=newRow_sound h (Grown1.drewAlloc w (.cells ⟨[]++news++(Builtin.zeroCells z.cells (cap-k)).toList⟩ e)) (row:=xs) (len:=k) (cap:=cap) (sz:=n) hcount
        (by
         have e5:=hnews.1
         simp[size_zeroCells,hz3,hzn,e5,hcount,←Nat.add_mul]
         congr 1;omega) hcap (fun i _ q=>by simp at q) (by rw[List.nil_append,←hnews.1,List.take_left];exact hnews.toPl hpl)
       exact⟨_,_,_,fin hrun,hg⟩
      ·cases hr
    ·
     rename_i row len
     split at hr
     ·rename_i l hown
      split at hr
      ·rename_i hbd
       obtain⟨hbd,hrl⟩:=hbd
       split at hr
       ·rename_i st1 hd
        simp only[Option.some.injEq,Prod.mk.injEq] at hr
        obtain⟨rfl,rfl,rfl⟩:=hr
        obtain⟨hc,hrv⟩:=owner_rv h h1 hown
        obtain⟨k1,k2,k3,k4⟩:=drop_sound h hc hrv hd
        have hv1:VR (G.clear (a.eval x) n) (.sl row len) (a.eval x):=VR.mono (G:=G) (G':=G.clear _ _) (fun _ _ _ h=>h) (fun _ _ h=>h) (SV.vr hxv rfl)
        have hn1:VRs (G.clear (a.eval x) n).pl xs news:=hnews.toPl hpl
        have hsz:∃b o' cap,a.eval x=.slice (some ⟨b,o',none⟩) len cap∧len≤cap:=by
         have hq:=SV.vr hxv rfl
         have hsp:=k3.spot
         generalize a.eval x=q at hq hsp ⊢
         cases hq with
         |sl _ _ b o' cap g g1 g2 g3=>exact⟨b,o',cap,rfl,g3⟩
         |sl0 a0 =>
          obtain⟨ab,ao,sp⟩:=a0
          have:=hsp ab ao sp 0 0 rfl
          subst this
          exact⟨ab,ao,0,rfl,Nat.le_refl _⟩
        obtain⟨b,o',cap,he,hle⟩:=hsz
        rw[he] at k1 k2 k3 hv1 hn1 fin
        by_cases hroom:len+k≤cap
        ·have hcap:(len+k)*n≤cap*n:=Nat.mul_le_mul_right _ hroom
         rw[Nat.add_mul] at hcap
         have hnl:news.length=k*n:=by rw[hnews.1,hcount]
         have bey:∀j,j<news.length→Beyond (.slice (some ⟨b,o',none⟩) len cap) n b (o'+len*n+j):=fun j hj=>⟨o',none,len,cap,rfl,by omega,by omega⟩
         obtain⟨G',hG⟩:=inplace_sound k1 k2 k3 hv1 hn1 hrl hcount hroom (fun j hb'=>(k3.mine b j hb').symm)
         exact⟨_,_,G',fin (run_append_room' ht hu hs hsrc hroom (fun j hj=>(k3.cell b _ (bey j hj)).1) (fun j hj=>(k3.cell b _ (bey j hj)).2) hone),hG⟩
        ·obtain⟨olds,hol,hold⟩:=firstCells_sl h (SV.of (SV.vr hxv rfl)) (n:=len) (sz:=n) hrl.symm
         rw[he] at hold
         obtain⟨cap',hcap,hrun⟩:=run_append_grow' (w:=w) (ty:=o.type) ht hu hs hi1 hi2 hb (base:=some ⟨b,o',none⟩) (sLen:=len) (sCap:=cap) (n:=k) hsrc (by omega) (olds:=olds) (hold w.drew (fun _ _=>rfl)) hbd
         have hol1:VRs (G.clear (.slice (some ⟨b,o',none⟩) len cap) n).pl row olds:=hol
         have hg:=newRow_sound k1 (Grown1.drewAlloc w (.cells ⟨olds++news++(Builtin.zeroCells z.cells (cap'-(len+k))).toList⟩ e)) (row:=row++xs) (len:=len+k) (cap:=cap') (sz:=n)
          (by rw[List.length_append,hrl,hcount,Nat.add_mul])
          (by
           have e5:=hnews.1
           have e6:=hol.1
           simp[size_zeroCells,hz3,hzn,e5,e6,hcount,hrl,←Nat.add_mul]
           congr 1;omega) hcap (fun i _ q=>by simp at q)
          (by
           have e7:(row++xs).length=(olds++news).length:=by simp[hnews.1,hol.1]
           rw[e7,List.take_left];exact hol1.append hn1)
         exact⟨_,_,_,fin hrun,OR.after k2 hg⟩
       ·cases hr
      ·cases hr
     ·split at hr
      ·rename_i hk
       subst hk
       simp only[Option.some.injEq,Prod.mk.injEq] at hr
       obtain⟨rfl,rfl,rfl⟩:=hr
       have hsz:(∃b o' cap,a.eval x=.slice (some ⟨b,o',none⟩) len cap∧len≤cap)∨(∃a0,a.eval x=.slice (some a0) 0 0):=by
        have hq:=SV.vr hxv rfl
        generalize a.eval x=q at hq ⊢
        cases hq with
        |sl _ _ b o' cap g g1 g2 g3=>exact .inl ⟨b,o',cap,rfl,g3⟩
        |sl0 a0=>exact .inr ⟨a0,rfl⟩
       have hnl:news=[]:=List.length_eq_zero_iff.1 (by have:=hsrc.count;simpa using this)
       rcases hsz with ⟨b,o',cap,he,hle⟩ | ⟨a0,he⟩
       ·rw[he] at fin hxv
        have:=run_append_room' (w:=w) (ty:=o.type) (b:=b) (o:=o') (sLen:=len) (sCap:=cap) ht hu hs hsrc (by omega) (by simp[hnl]) (by simp[hnl]) hone
        rw[hnl] at this
        exact⟨_,w,G,fin this,OR.same h hxv⟩
       ·rw[he] at fin hxv
        rw[hnl] at hsrc
        have:=run_append_zero' (w:=w) (ty:=o.type) (a:=a0) ht hu hs hsrc
        exact⟨_,w,G,fin this,OR.same h hxv⟩
      ·cases hr
    ·cases hr
   ·cases hr
 ·cases hr
end Go.Idl
namespace Go.Idl
open Classical
variable {X:Ctx}{N:Nat}{G:Gh}{st:St}{a:Act}{w:World}
def World.putObj (w:World) (b:Nat) (o:Obj):World:={ w with heap:=w.heap.setIfInBounds b o }
def notCells:Obj→Prop
 |.cells ..=>False
 |_=>True
theorem run_setObj' {P:Program}{b:Nat}{ro o:Obj}(h:w.heap[b]?=some ro) (hn:notCells ro):(setObj b o).run P w=.ok () (World.putObj w b o):=by
 cases ro<;>first | exact hn.elim | simp[setObj,Sem.run,h,World.putObj]
theorem run_getObj' {P:Program}{b:Nat}{ro:Obj}(h:w.heap[b]?=some ro) (hn:notCells ro):(getObj b).run P w=.ok ro w:=by
 cases ro<;>first | exact hn.elim | simp[getObj,Sem.run,h]
theorem putObj_same {b:Nat}{ro o:Obj}(h:w.heap[b]?=some ro):(World.putObj w b o).heap[b]?=some o:=by
 have:=heap_lt h
 simp[World.putObj,this]
theorem putObj_other {b k:Nat}{o:Obj}(h:k≠b):(World.putObj w b o).heap[k]?=w.heap[k]?:=by
 simp[World.putObj,Ne.symm h]
theorem putObj_cell {b:Nat}{ro o:Obj}(h:w.heap[b]?=some ro) (hn:notCells ro) (ho:notCells o) (x:Addr):(World.putObj w b o).cell? x=w.cell? x:=by
 by_cases q:x.block=b
 ·unfold World.cell?
  rw[q,putObj_same h,h]
  cases o<;>first | exact ho.elim | (cases ro<;>first | exact hn.elim | rfl)
 ·exact World.cell?_of_block (putObj_other q)
theorem putObj_frozen {b:Nat}{ro o:Obj}(h:w.heap[b]?=some ro) (hn:notCells ro) (ho:notCells o) (x:Addr):(World.putObj w b o).frozen? x=w.frozen? x:=by
 unfold World.frozen?
 by_cases q:x.block=b
 ·rw[q,putObj_same h,h]
  cases o<;>first | exact ho.elim | (cases ro<;>first | exact hn.elim | rfl)
 ·rw[putObj_other q]
@[simp] theorem putObj_size {b:Nat}{o:Obj}:(World.putObj w b o).heap.size=w.heap.size:=by simp[World.putObj]
def LoopKept (ro o:Obj):Prop:=∀L,ro=.loop L→∃L',o=.loop L'
theorem Step.putObj {b:Nat}{ro o:Obj}(hr:w.heap[b]?=some ro) (hl:LoopKept ro o) (hb:G.opn b):Step G w G (World.putObj w b o) where
 loop k L h:=by
  by_cases e:k=b
  ·subst e
   rw[hr] at h
   obtain⟨L',rfl⟩:=hl L (Option.some.inj h)
   exact⟨L',putObj_same hr⟩
  ·exact⟨L,by rw[putObj_other e];exact h⟩
 os:=rfl
 tape:=rfl
 output:=rfl
 size:=by simp
 imm _ _ _ h:=h
 bx _ _ h:=h
 other k x h nb _:=by rw[putObj_other (by rintro rfl;exact nb hb)];exact h
 cells k c t f h nb:=⟨c,f,by rw[putObj_other (by rintro rfl;exact nb hb)];exact h,rfl,fun _ _=>rfl,.inl rfl⟩
 immNew _ _ _ _ _ h:=.inl h
 owNew _ _ _ _ h:=by simp[h]
 boxNew _ _ h:=h
 hid:=rfl
 old:=rfl
 bxNew _ _ h:=.inl h
theorem WF.putObj (h:WF X G w) {b:Nat}{ro o:Obj}(hr:w.heap[b]?=some ro) (hn:notCells ro) (ho:notCells o):WF X G (World.putObj w b o) where
 imm k i v e:=by rw[putObj_cell hr hn ho];exact h.imm k i v e
 inj:=h.inj
 linj:=h.linj
 disj:=h.disj
 boxlt k q:=by simpa using h.boxlt k q
 boximm:=h.boximm
 boxow:=h.boxow
 owimm:=h.owimm
 owcell k i l e:=by rw[putObj_cell hr hn ho,putObj_frozen hr hn ho];exact h.owcell k i l e
 glob:=h.glob
 old:=by simpa using h.old
theorem LinkOK.putObj {b:Nat}{ro o:Obj}(hr:w.heap[b]?=some ro) (hn:notCells ro) (ho:notCells o) {i:Nat}{l:Loc}(h:LinkOK G a w i l):LinkOK G a (World.putObj w b o) i l:=by
 cases l with
 |slot j=>exact h
 |L k off=>obtain⟨b',e1,e2⟩:=h;exact⟨b',e1,by rw[putObj_cell hr hn ho];exact e2⟩
 |B k off=>obtain⟨b',e1,e2⟩:=h;exact⟨b',e1,by rw[putObj_cell hr hn ho];exact e2⟩
 |marked =>
  intro b' o' sp len cap e
  obtain⟨c,t,f,hc,hf⟩:=h b' o' sp len cap e
  by_cases q:b'=b
  ·subst q;rw[hr] at hc;simp only[Option.some.injEq] at hc;subst hc;exact hn.elim
  ·exact⟨c,t,f,by rw[putObj_other q];exact hc,hf⟩
theorem SR.putL (h:SR X N G st a w) {k:Nat}{b:Nat}{ro o:Obj}{x x':BObj}(hx:lookL st.lb k=x) (hb:G.lb k=some b) (hr:w.heap[b]?=some ro) (hn:notCells ro) (ho:notCells o) (hne:x' ≠ .none)
  (ho':ORel X G x' o):SR X N G { st with lb:=(k,x')::st.lb } a (World.putObj w b o):=by
 refine { size:=h.size,env:=h.env,own:=h.own,lk:=fun i l hm=>(h.lk i l hm).putObj hr hn ho,lb:=?_,lbown:=?_,lbdom:=?_,mr:=?_,wf:=h.wf.putObj hr hn ho }
 ·intro k' hn'
  rw[lookL_cons] at hn' ⊢
  split at hn'
  ·rename_i e;subst e
   rw[if_pos rfl]
   exact⟨b,o,hb,putObj_same hr,ho'⟩
  ·rename_i e
   rw[if_neg e]
   obtain⟨b',ro',e1,e2,e3⟩:=h.lb k' hn'
   exact⟨b',ro',e1,by rw[putObj_other (fun q=>e (by subst q;exact h.wf.linj _ _ _ hb e1))];exact e2,e3⟩
 ·intro k' cs cp off sz e1 e2 b' r e3 e4
  rw[lookL_cons] at e1
  split at e1
  ·subst e1;cases ho';exact ho.elim
  ·rw[putObj_cell hr hn ho] at e4
   exact h.lbown k' cs cp off sz e1 e2 b' r e3 e4
 ·intro k' b' e
  rw[lookL_cons]
  split
  ·exact hne
  ·exact h.lbdom k' b' e
 ·refine { bx:=?_,own:=?_,dom:=h.mr.dom,hid:=h.mr.hid }
  ·intro id hn'
   obtain⟨b',ro',e1,e2,e3⟩:=h.mr.bx id hn'
   exact⟨b',ro',e1,by rw[putObj_other (fun q=>by subst q;exact h.wf.disj _ _ _ e1 hb)];exact e2,e3⟩
  ·intro id cs cp off sz e1 e2 b' r e3 e4
   rw[putObj_cell hr hn ho] at e4
   exact h.mr.own id cs cp off sz e1 e2 b' r e3 e4
theorem get_put {m m':IM}{id:Nat}{x:BObj}(h:m.put id x=some m'):m'.size=m.size∧m'.esc=m.esc∧∀j,m'.get j=if id=j∧id<m.size then x else m.get j:=by
 simp only[IM.put,frc_eq,Option.some.injEq] at h
 subst h
 refine⟨by simp[IM.size],rfl,fun j=>?_⟩
 simp only[IM.get,IM.size,List.getD_eq_getElem?_getD,List.getElem?_set]
 by_cases q:id=j
 ·subst q
  by_cases q2:id<m.bs.length
  ·simp[q2]
  ·simp[q2]
 ·simp[q]
theorem get_lt {m:IM}{id:Nat}(h:m.get id ≠ .none):id<m.size:=by
 rcases Nat.lt_or_ge id m.bs.length with q | q
 ·exact q
 ·simp[IM.get,List.getD_eq_getElem?_getD,List.getElem?_eq_none q] at h
theorem MR.opn {m:IM}(h:MR X G m w) {id b:Nat}(hg:m.get id ≠ .none) (hb:G.bx id=some b):G.opn b:=.inl ⟨id,hb,by
 cases q:G.hid id with
 |false=>rfl
 |true=>exact absurd (h.hid id q).2 hg⟩
theorem SR.putB (h:SR X N G st a w) {id:Nat}{b:Nat}{ro o:Obj}{x':BObj}{m':IM}(hx:st.m.get id ≠ .none) (hb:G.bx id=some b) (hr:w.heap[b]?=some ro) (hn:notCells ro) (ho:notCells o)
  (ho':ORel X G x' o) (hm:st.m.put id x'=some m'):SR X N G { st with m:=m' } a (World.putObj w b o):=by
 obtain⟨hsz,_,hget⟩:=get_put hm
 have hlt:=get_lt hx
 have hget':∀j,m'.get j=if id=j then x' else st.m.get j:=fun j=>by rw[hget];simp[hlt]
 refine { size:=h.size,env:=h.env,own:=h.own,lk:=fun i l hm=>(h.lk i l hm).putObj hr hn ho,lb:=?_,lbown:=?_,lbdom:=h.lbdom,mr:=?_,wf:=h.wf.putObj hr hn ho }
 ·intro k' hn'
  obtain⟨b',ro',e1,e2,e3⟩:=h.lb k' hn'
  exact⟨b',ro',e1,by rw[putObj_other (fun q=>by subst q;exact h.wf.disj _ _ _ hb e1)];exact e2,e3⟩
 ·intro k' cs cp off sz e1 e2 b' r e3 e4
  rw[putObj_cell hr hn ho] at e4
  exact h.lbown k' cs cp off sz e1 e2 b' r e3 e4
 ·refine { bx:=?_,own:=?_,dom:=fun j b' e=>by rw[hsz];exact h.mr.dom j b' e,hid:=fun j e=>?_ }
  ·intro j hn'
   simp only[hget'] at hn' ⊢
   split at hn'
   ·rename_i q;subst q
    rw[if_pos rfl]
    exact⟨b,o,hb,putObj_same hr,ho'⟩
   ·rename_i q
    rw[if_neg q]
    obtain⟨b',ro',e1,e2,e3⟩:=h.mr.bx j hn'
    exact⟨b',ro',e1,by rw[putObj_other (fun e=>q (by subst e;exact h.wf.inj _ _ _ hb e1))];exact e2,e3⟩
  ·intro j cs cp off sz e1 e2 b' r e3 e4
   simp only[hget'] at e1
   rw[putObj_cell hr hn ho] at e4
   split at e1
   ·subst e1;cases ho';exact ho.elim
   ·exact h.mr.own j cs cp off sz e1 e2 b' r e3 e4
  ·obtain⟨q1,q2⟩:=h.mr.hid j e
   refine⟨by rw[hsz];exact q1,?_⟩
   rw[hget',if_neg (fun q=>hx (by rw[q];exact q2))]
   exact q2
theorem rangeStr_sound (h:SR X N G st a w) (call:CallT) {t:TypeId}{x:Operand}{x':Arg}{k:Nat}(ht:X.P.underlying t=some .string) (hx:ArgR X.rows x x') {v:IV}{c:Cap}{st':St}
  (hr:(IK.rangeStr k x').run call st=some (v,c,st')) (o:Oper) (ho:o.op=.range t x):∃r w' G',OpRun X.P o a.eval w r w'∧OR X N G w st' a v c r G' w':=by
 simp only[IK.run] at hr
 split at hr
 ·rename_i s e
  have hs:=(h.rd hx e).str_inv
  obtain⟨G',hG⟩:=newL_sound h (Grown1.alloc w (.stringIter ⟨⟨s⟩⟩ 0)) hr (.iter s 0) (by simp) (fun cs cp' off sz e1 e2=>by cases e1)
  exact⟨_,_,G',.inl (by simp[execOp,ho,Instr.range,run_und ht,hs]),hG⟩
 ·cases hr
theorem nextStr_sound (h:SR X N G st a w) (call:CallT) {x:Operand}{x':Arg}(hx:ArgR X.rows x x') {v:IV}{c:Cap}{st':St}
  (hr:(IK.nextStr x').run call st=some (v,c,st')) (o:Oper) (ho:o.op=.next x true):∃r w' G',OpRun X.P o a.eval w r w'∧OR X N G w st' a v c r G' w':=by
 simp only[IK.run] at hr
 split at hr
 ·rename_i k e
  obtain⟨b,hb,hp⟩:=h.rd hx e
  split at hr
  ·rename_i s pos e2
   obtain⟨b',ro,h1,h2,h3⟩:=h.lb k (by rw[e2];simp)
   rw[hb] at h1
   simp only[Option.some.injEq] at h1
   subst h1
   rw[e2] at h3
   cases h3
   have hsz:(ByteArray.mk ⟨s⟩).size=s.length:=rfl
   split at hr
   ·rename_i hlt
    simp only[Option.some.injEq,Prod.mk.injEq] at hr
    obtain⟨rfl,rfl,rfl⟩:=hr
    refine⟨.tuple ⟨[.bool true,.int .i64 pos,.int .i32 (Utf8.decode ⟨⟨s⟩⟩ pos).1]⟩,World.putObj w b (.stringIter ⟨⟨s⟩⟩ (pos+(Utf8.decode ⟨⟨s⟩⟩ pos).2)),G,.inl ?_,?_,?_,Step.putObj h2 (fun _ q=>by cases q) (.inr ⟨k,hb⟩),fun _ e=>by cases e⟩
    ·simp only[execOp,ho,hp,Instr.next,Sem.run_bind,run_getObj' h2 trivial,Result.andThen_ok,hsz,hlt,if_true,run_setObj' h2 trivial,Sem.run_pure]
     rfl
    ·exact h.putL e2 hb h2 trivial trivial (by simp) (.iter _ _)
    ·exact VR.tup' (VRs.cons (.bool _) (VRs.cons (.int _ _) (VRs.cons (.int _ _) VRs.nil)))
   ·rename_i hlt
    simp only[Option.some.injEq,Prod.mk.injEq] at hr
    obtain⟨rfl,rfl,rfl⟩:=hr
    refine⟨.tuple ⟨[.bool false]⟩,w,G,.inl ?_,OR.same h (VR.tup' (VRs.cons (.bool _) VRs.nil))⟩
    simp only[execOp,ho,hp,Instr.next,Sem.run_bind,run_getObj' h2 trivial,Result.andThen_ok,hsz,hlt,if_false,Sem.run_pure]
  ·cases hr
 ·cases hr
theorem mkMap_sound (h:SR X N G st a w) (call:CallT) {t:TypeId}{v:IV}{c:Cap}{st':St}
  (hr:IK.mkMap.run call st=some (v,c,st')) (o:Oper) (ho:o.op=.makeMap t none):∃r w' G',OpRun X.P o a.eval w r w'∧OR X N G w st' a v c r G' w':=by
 simp only[IK.run] at hr
 obtain⟨G',hG⟩:=newG_sound (v0:=.map st.m.size) h (Grown1.alloc w (.map #[] 0)) hr (.map [] [] 0 VRs.nil VRs.nil) (by simp) (fun cs cp' off sz e1 e2=>by cases e1)
  (r:=.map (some w.heap.size)) (fun G' e=>VR.map _ _ e)
 exact⟨_,_,G',.inl (by simp[execOp,ho,Instr.makeMap]),hG⟩
theorem mapLen_sound (h:SR X N G st a w) (call:CallT) {t k e:TypeId}{x:Operand}{x':Arg}(ht:X.P.underlying t=some (.map k e)) (hx:ArgR X.rows x x') {v:IV}{c:Cap}{st':St}
  (hr:(IK.mapLen x').run call st=some (v,c,st')) (o:Oper) (ho:o.op=.call ⟨.builtin .len,#[x],#[t]⟩):∃r w' G',OpRun X.P o a.eval w r w'∧OR X N G w st' a v c r G' w':=by
 simp only[IK.run] at hr
 split at hr
 ·rename_i e
  have hv:=h.rd hx e
  simp only[Option.some.injEq,Prod.mk.injEq] at hr
  obtain⟨rfl,rfl,rfl⟩:=hr
  generalize hq:a.eval x=q at hv
  cases hv
  refine⟨_,w,G,.inl ?_,OR.same h (VR.int _ _)⟩
  simp[execOp,ho,resolve,invoke,builtin,Builtin.len_,Builtin.lenOf,run_und ht,hq,goInt]
 ·rename_i id e
  have hv:=h.rd hx e
  split at hr
  ·rename_i es e2
   simp only[Option.some.injEq,Prod.mk.injEq] at hr
   obtain⟨rfl,rfl,rfl⟩:=hr
   obtain⟨b,ro,h1,h2,h3⟩:=h.mr.bx id (by rw[e2];simp)
   rw[e2] at h3
   cases h3 with
   |map _ res clock hk hv' =>
    generalize hq:a.eval x=q at hv
    cases hv with
    |map _ b' hb =>
     rw[h1] at hb
     simp only[Option.some.injEq] at hb
     subst hb
     refine⟨_,w,G,.inl ?_,OR.same h (VR.int _ _)⟩
     have hl:es.length=res.length:=by simpa using hk.1.symm
     have hg:=run_getObj' (P:=X.P) h2 trivial
     simp[execOp,ho,resolve,invoke,builtin,Builtin.len_,Builtin.lenOf,run_und ht,hq,goInt,hg,hl]
  ·cases hr
 ·cases hr
theorem keyEq_sound {ed:EqD}{d:TypeDesc}(hd:keyDesc ed d) {x y:IV}{rx ry:Value}(hx:SV G x rx) (hy:VR G y ry) {b:Bool}(h:keyEq ed x y=some b) :
  Instr.sameNow d rx ry=some b∧(b=true→rx=ry∧Instr.sameBits 10000 ry rx=true):=by
 unfold keyEq at h
 split at h
 ·have h1:=hx.int_inv
  cases hy
  subst h1
  split at h
  ·rename_i hk
   simp only[Option.some.injEq] at h
   cases d<;>first | exact hd.elim | skip
   subst hk
   refine⟨by simp[Instr.sameNow,h],fun hb=>?_⟩
   subst hb
   simp only[beq_iff_eq] at h
   subst h
   exact⟨rfl,by simp[Instr.sameBits]⟩
  ·cases h
 ·have h1:=hx.str_inv
  cases hy
  subst h1
  simp only[Option.some.injEq] at h
  cases d<;>first | exact hd.elim | skip
  rename_i s s'
  have heq:((ByteArray.mk ⟨s⟩==ByteArray.mk ⟨s'⟩):Bool)=(s==s'):=by
   show (Array.mk s==Array.mk s')=_
   simp
  refine⟨by simp[Instr.sameNow,heq,h],fun hb=>?_⟩
  subst hb
  simp only[beq_iff_eq] at h
  subst h
  exact⟨rfl,by simp[Instr.sameBits,heq]⟩
 ·have h1:=hx.bool_inv
  cases hy
  subst h1
  simp only[Option.some.injEq] at h
  cases d<;>first | exact hd.elim | skip
  refine⟨by simp[Instr.sameNow,h],fun hb=>?_⟩
  subst hb
  simp only[beq_iff_eq] at h
  subst h
  exact⟨rfl,by simp[Instr.sameBits]⟩
 ·cases h
theorem find_sound {ed:EqD}{d:TypeDesc}(hd:keyDesc ed d) {x:IV}{rx:Value}(hx:SV G x rx):∀(es:List (IV×IV)) (res:List MapEntry) (i:Nat) (o:Option IV),VRs G (es.map (·.1)) (res.map (·.key))→VRs G (es.map (·.2)) (res.map (·.val))→findI ed x es=some o →
  match o with
  |none=>Instr.findNow d rx res i=some none
  |some v=>∃j r,Instr.findNow d rx res i=some (some (j,r))∧VR G v r
 |[],res,i,o,hk,hv,h=>by
  have:res=[]:=by simpa using hk.1
  subst this
  simp only[findI,Option.some.injEq] at h
  subst h
  rfl
 |(y,v)::es,res,i,o,hk,hv,h=>by
  cases res with
  |nil=>have:=hk.1;simp at this
  |cons e res =>
   simp only[findI] at h
   split at h
   ·rename_i e1
    simp only[Option.some.injEq] at h
    subst h
    obtain⟨h1,_⟩:=keyEq_sound hd hx hk.head e1
    exact⟨i,e.val,by simp[Instr.findNow,h1],hv.head⟩
   ·rename_i e1
    obtain⟨h1,_⟩:=keyEq_sound hd hx hk.head e1
    have:=find_sound hd hx es res (i+1) o hk.tail hv.tail h
    simp only[Instr.findNow,h1]
    exact this
   ·cases h
theorem run_checkKey' {P:Program}{k:TypeId}{d:TypeDesc}(hk:P.underlying k=some d) {ed:EqD}(hd:keyDesc ed d) (e:Bool) (v:Value):(Instr.checkKey e 10000 k v).run P w=.ok () w:=by
 unfold Instr.checkKey
 simp only[Sem.run_bind,run_und hk,Result.andThen_ok]
 cases d<;>first | (cases ed<;>exact hd.elim) | skip
 all_goals (cases v<;>rfl)
theorem lookup_sound (h:SR X N G st a w) (call:CallT) {t k e:TypeId}{m x:Operand}{m' x':Arg}{zero:IV}{ok:Bool}{d:TypeDesc}{ed:EqD}(ht:X.P.underlying t=some (.map k e)) (hk:X.P.underlying k=some d) (hkd:keyDesc ed d)
  (hz:∃i z,X.P.info? e=some i∧i.zero=some z∧∀G,VR G zero z) (hm:ArgR X.rows m m') (hx:ArgR X.rows x x') {v:IV}{c:Cap}{st':St}
  (hr:(IK.lookup ed zero ok m' x').run call st=some (v,c,st')) (o:Oper) (ho:o.op=.lookup t m x ok):∃r w' G',OpRun X.P o a.eval w r w'∧OR X N G w st' a v c r G' w':=by
 obtain⟨i,z,hi,hiz,hzr⟩:=hz
 have hzv:∀w,(zeroValue e).run X.P w=.ok z w:=fun w=>by simp[zeroValue,typeInfo,hi,hiz]
 simp only[IK.run] at hr
 have fin:∀{v0:IV}{r0:Value}{b:Bool},VR G v0 r0→(if ok then IV.tup [v0,.bool b] else v0,Cap.any,st)=(v,c,st')→OR X N G w st' a v c (if ok then .tuple #[r0,.bool b] else r0) G w:=by
  intro v0 r0 b hv e
  simp only[Prod.mk.injEq] at e
  obtain⟨rfl,rfl,rfl⟩:=e
  refine OR.same h ?_
  cases ok
  ·exact SV.of hv
  ·exact VR.tup' (VRs.cons hv (VRs.cons (.bool _) VRs.nil))
 split at hr
 ·rename_i e1 e2
  have hmv:=h.rd hm e1
  generalize hq:a.eval m=q at hmv
  cases hmv
  refine⟨_,w,G,.inl ?_,fin (hzr G) (Option.some.inj hr)⟩
  have hf:(Instr.findKey k (a.eval x) []).run X.P w=.ok none w:=by simp[Instr.findKey,run_und hk,Instr.findNow]
  simp[execOp,ho,Instr.lookup,run_und ht,hq,run_checkKey' hk hkd,hf,hzv]
 ·rename_i id xk e1 e2
  have hmv:=h.rd hm e1
  have hxv:=h.rd hx e2
  split at hr
  ·rename_i es e3
   obtain⟨b,ro,h1,h2,h3⟩:=h.mr.bx id (by rw[e3];simp)
   rw[e3] at h3
   cases h3 with
   |map _ res clock hks hvs =>
    generalize hq:a.eval m=q at hmv
    cases hmv with
    |map _ b' hb =>
     rw[h1] at hb
     simp only[Option.some.injEq] at hb
     subst hb
     have hg:=run_getObj' (P:=X.P) h2 trivial
     split at hr
     ·rename_i v0 e4
      obtain⟨j,r0,h4,h5⟩:=find_sound hkd hxv es res 0 _ hks hvs e4
      refine⟨_,w,G,.inl ?_,fin h5 (Option.some.inj hr)⟩
      have hf:(Instr.findKey k (a.eval x) res).run X.P w=.ok (some (j,r0)) w:=by simp[Instr.findKey,run_und hk,h4]
      simp[execOp,ho,Instr.lookup,run_und ht,hq,hg,run_checkKey' hk hkd,hf]
     ·rename_i e4
      have h4:=find_sound hkd hxv es res 0 _ hks hvs e4
      simp only at h4
      refine⟨_,w,G,.inl ?_,fin (hzr G) (Option.some.inj hr)⟩
      have hf:(Instr.findKey k (a.eval x) res).run X.P w=.ok none w:=by simp[Instr.findKey,run_und hk,h4]
      simp[execOp,ho,Instr.lookup,run_und ht,hq,hg,run_checkKey' hk hkd,hf,hzv]
     ·cases hr
  ·cases hr
 ·cases hr
theorem upd_sound {ed : EqD} {d : TypeDesc} (hd : keyDesc ed d) {x v : IV} {rx rv : Value} (hx : VR G x rx) (hv0 : VR G v rv) (clock : Nat) : ∀ (es : List (IV × IV)) (res : List MapEntry) (i : Nat) (es' : List (IV × IV)), VRs G (es.map (·.1)) (res.map (·.key)) → VRs G (es.map (·.2)) (res.map (·.val)) → updI ed x v es = some es' →
    ∃ res', VRs G (es'.map (·.1)) (res'.map (·.key)) ∧ VRs G (es'.map (·.2)) (res'.map (·.val)) ∧
      ((Instr.findNow d rx res i = some none ∧ res' = res ++ [{ key := rx, val := rv, born := clock }]) ∨
       (∃ j r e, Instr.findNow d rx res i = some (some (i + j, r)) ∧ res[j]? = some e ∧ e.key = rx ∧ Instr.sameBits 10000 e.key rx = true ∧ res' = res.modify j fun e => { e with key := rx, val := rv }))
  | [], res, i, es', hk, hv, h => by
    have : res = [] := by simpa using hk.1
    subst this
    simp only [updI, Option.some.injEq] at h
    subst h
    exact ⟨[{ key := rx, val := rv, born := clock }], VRs.cons hx VRs.nil, VRs.cons hv0 VRs.nil, .inl ⟨rfl, rfl⟩⟩
  | (y, u) :: es, res, i, es', hk, hv, h => by
    cases res with
    | nil => have := hk.1; simp at this
    | cons e res =>
      simp only [updI] at h
      split at h
      · rename_i e1
        simp only [Option.some.injEq] at h
        subst h
        obtain ⟨h1, h2⟩ := keyEq_sound hd (SV.of hx) hk.head e1
        obtain ⟨h2, h3⟩ := h2 rfl
        refine ⟨{ e with key := rx, val := rv } :: res, VRs.cons hx hk.tail, VRs.cons hv0 hv.tail, .inr ⟨0, e.val, e, by simp [Instr.findNow, h1], rfl, h2.symm, h3, rfl⟩⟩
      · rename_i e1
        obtain ⟨h1, _⟩ := keyEq_sound hd (SV.of hx) hk.head e1
        simp only [Option.map_eq_some_iff] at h
        obtain ⟨es2, h4, rfl⟩ := h
        obtain ⟨res2, h5, h6, h7⟩ := upd_sound hd hx hv0 clock es res (i + 1) es2 hk.tail hv.tail h4
        refine ⟨e :: res2, VRs.cons hk.head h5, VRs.cons hv.head h6, ?_⟩
        rcases h7 with ⟨h7, rfl⟩ | ⟨j, r, e', h7, h8, h9, h10, rfl⟩
        · exact .inl ⟨by simp [Instr.findNow, h1, h7], rfl⟩
        · exact .inr ⟨j + 1, r, e', by simp [Instr.findNow, h1, h7]; omega, by simpa using h8, h9, h10, by simp⟩
      · cases h
theorem mapUpd_sound (h:SR X N G st a w) (call:CallT) {t k e:TypeId}{m x y:Operand}{m' x' y':Arg}{d:TypeDesc}{ed:EqD}(ht:X.P.underlying t=some (.map k e)) (hk:X.P.underlying k=some d) (hkd:keyDesc ed d)
  (hm:ArgR X.rows m m') (hx:ArgR X.rows x x') (hy:ArgR X.rows y y') {v:IV}{c:Cap}{st':St}
  (hr:(IK.mapUpd ed m' x' y').run call st=some (v,c,st')) (o:Oper) (ho:o.op=.mapUpdate t m x y∨o.op=.insert t m x y):∃r w' G',OpRun X.P o a.eval w r w'∧OR X N G w st' a v c r G' w':=by
 simp only[IK.run] at hr
 split at hr
 ·rename_i id xk yv e1 e2 e3
  have hmv:=h.rd hm e1
  split at hr
  ·rename_i es e4
   split at hr
   ·rename_i _ _ es' e5 e6
    simp only[Bool.and_eq_true] at e6
    have nl:∀{v:IV},v.plain=true→v.isL=false:=by intro v q;cases v<;>first | rfl | (simp[IV.plain] at q)
    have hxv:=(h.rd hx e2).vr (nl e6.2)
    have hyv:=(h.rd hy e3).vr (nl e6.1)
    split at hr
    ·rename_i m2 e7
     simp only[Option.some.injEq,Prod.mk.injEq] at hr
     obtain⟨rfl,rfl,rfl⟩:=hr
     obtain⟨b,ro,h1,h2,h3⟩:=h.mr.bx id (by rw[e4];simp)
     have hopn:=h.mr.opn (by rw[e4];simp) h1
     rw[e4] at h3
     cases h3 with
     |map _ res clock hks hvs =>
      generalize hq:a.eval m=q at hmv
      cases hmv with
      |map _ b' hb =>
       rw[h1] at hb
       simp only[Option.some.injEq] at hb
       subst hb
       have hg:=run_getObj' (P:=X.P) h2 trivial
       obtain⟨res',k1,k2,k3⟩:=upd_sound hkd hxv hyv clock es res 0 es' hks hvs e5
       rcases k3 with ⟨k3,rfl⟩ | ⟨j,r,en,k3,k4,k5,k6,rfl⟩
       ·have hf:(Instr.findKey k (a.eval x) res).run X.P w=.ok none w:=by simp[Instr.findKey,run_und hk,k3]
        have hs:=run_setObj' (P:=X.P) (o:=.map ⟨res++[{ key:=a.eval x,val:=a.eval y,born:=clock }]⟩ (clock+1)) h2 trivial
        refine⟨undef,_,G,.inr ⟨?_,rfl⟩,h.putB (o:=.map ⟨res++[{ key:=a.eval x,val:=a.eval y,born:=clock }]⟩ (clock+1)) (by rw[e4];simp) h1 h2 trivial trivial (.map es' _ (clock+1) k1 k2) e7,SV.undef _,Step.putObj h2 (fun _ q=>by cases q) hopn,fun _ e=>by cases e⟩
        rcases ho with ho | ho<;>simp[execOp,ho,Instr.mapUpdate,run_und ht,hq,hg,run_checkKey' hk hkd,hf,hs]
       ·rw[Nat.zero_add] at k3
        have hf:(Instr.findKey k (a.eval x) res).run X.P w=.ok (some (j,r)) w:=by simp[Instr.findKey,run_und hk,k3]
        have hks:(Instr.keyThatStays en.key (a.eval x)).run X.P w=.ok (a.eval x) w:=by simp[Instr.keyThatStays,k6]
        have hs:=run_setObj' (P:=X.P) (o:=.map ⟨res.modify j fun e=>{ e with key:=a.eval x,val:=a.eval y }⟩ clock) h2 trivial
        refine⟨undef,_,G,.inr ⟨?_,rfl⟩,h.putB (o:=.map ⟨res.modify j fun e=>{ e with key:=a.eval x,val:=a.eval y }⟩ clock) (by rw[e4];simp) h1 h2 trivial trivial (.map es' _ clock k1 k2) e7,SV.undef _,Step.putObj h2 (fun _ q=>by cases q) hopn,fun _ e=>by cases e⟩
        rcases ho with ho | ho<;>simp[execOp,ho,Instr.mapUpdate,run_und ht,hq,hg,run_checkKey' hk hkd,hf,k4,hks,hs]
    ·cases hr
   ·cases hr
  ·cases hr
 ·cases hr
end Go.Idl
namespace Go.Idl
open Classical
variable {X:Ctx}{N:Nat}{G:Gh}{st:St}{a:Act}{w:World}
theorem strBytes_sound (h:SR X N G st a w) (call:CallT) {s d e:TypeId}{x:Operand}{x':Arg}(hs:X.P.underlying s=some .string) (hd:X.P.underlying d=some (.slice e)) (he:X.P.underlying e=some (.int .u8)) (hx:ArgR X.rows x x')
  {v:IV}{c:Cap}{st':St}(hr:(IK.strBytes x').run call st=some (v,c,st')) (o:Oper) (ho:o.op=.convert s d x) :
  ∃r w' G',OpRun X.P o a.eval w r w'∧OR X N G w st' a v c r G' w'∧∀b o' sp l cp,r=.slice (some ⟨b,o',sp⟩) l cp→Markable G' w' b:=by
 simp only[IK.run] at hr
 split at hr
 ·rename_i bs e1
  split at hr
  ·rename_i hle
   simp only[Option.some.injEq,Prod.mk.injEq] at hr
   obtain⟨rfl,rfl,rfl⟩:=hr
   have hsv:=(h.rd hx e1).str_inv
   have hrun:=run_bytes_of_string (P:=X.P) w s d e ⟨⟨bs⟩⟩ hs hd he
   have hsz:(ByteArray.mk ⟨bs⟩).size=bs.length:=rfl
   obtain⟨cap,hcap⟩:∃cap,cap=grownCap w (ByteArray.mk ⟨bs⟩).size 0 e:=⟨_,rfl⟩
   have hge:bs.length≤cap:=by rw[hcap,←hsz];exact grownCap_ge _ _ _ _
   rw[←hcap] at hrun
   have hrow:bytesRow ⟨⟨bs⟩⟩ cap=⟨(bs.map fun b=>Value.int .u8 b.toNat)++List.replicate (cap-bs.length) (.int .u8 0)⟩:=by
    apply Array.ext'
    simp[bytesRow,hsz]
   rw[hrow] at hrun
   have hg:=newRow_sound h (Grown1.drewAlloc w (.cells ⟨(bs.map fun b=>Value.int .u8 b.toNat)++List.replicate (cap-bs.length) (.int .u8 0)⟩ e (cap,cap+1))) (row:=bytesCells bs) (len:=bs.length) (cap:=cap) (sz:=1)
    (by simp[bytesCells_length]) (by simp;omega) hge (fun i hi q=>by simp at hi q;omega)
    (by
     rw[bytesCells_length]
     have:bs.length=(bs.map fun b=>Value.int .u8 b.toNat).length:=by simp
     rw[this,List.take_left]
     exact bytesCells_sound bs)
   have hcs:(Array.mk ((bs.map fun b=>Value.int .u8 b.toNat)++List.replicate (cap-bs.length) (Value.int .u8 0))).size=cap:=by simp;omega
   refine⟨_,_,_,.inl ?_,hg,?_⟩
   ·simp only[execOp,ho,hsv,Sem.run_bind,hrun,Result.andThen_ok,Sem.run_pure,hsz,hcs]
   ·intro b o' sp l cp q
    simp only[Value.slice.injEq,Option.some.injEq,Addr.mk.injEq] at q
    obtain⟨⟨rfl,_,_⟩,_,_⟩:=q
    refine⟨⟨(bs.map fun b=>Value.int .u8 b.toNat)++List.replicate (cap-bs.length) (.int .u8 0)⟩,e,_,(Grown1.drewAlloc w _).new,.inl ?_⟩
    rw[hcs]
  ·cases hr
 ·cases hr
theorem run_mark {P:Program}{b o:Nat}{sp:Option Nat}{c:Array Value}{t:TypeId}(h:w.heap[b]?=some (.cells c t (c.size,c.size+1))):(markStringish ⟨b,o,sp⟩).run P w=.ok () w:=by
 have h1:w.shape? b=some (t,c.size):=by simp[World.shape?,h]
 have h2:w.freeze ⟨b,c.size,none⟩ 1=w:=by
  have:(w.heap.modify b fun | .cells c' elem (lo,hi)=>.cells c' elem (if lo==hi then (c.size,c.size+1) else (min lo c.size,max hi (c.size+1))) | o=>o)=w.heap:=by
   apply Array.ext
   ·simp
   ·intro i h1 h2
    rw[Array.getElem_modify]
    split
    ·rename_i q;subst q
     obtain⟨_,h3⟩:=Array.getElem?_eq_some_iff.1 h
     rw[h3]
     simp
    ·rfl
  unfold World.freeze
  rw[if_neg (by decide)]
  exact congrArg (fun hp=>({ w with heap:=hp }:World)) this
 simp[markStringish,h1,h2]
theorem link_mem:∀{lk:List (Nat×Loc)}{i:Nat}{l:Loc},linkOf lk i=some l→(i,l)∈lk
 |[],_,_,e=>by cases e
 |(j,q)::lk,i,l,e=>by
  rw[linkOf] at e
  split at e
  ·rename_i hb
   have:=Nat.eq_of_beq_eq_true hb
   cases e
   rw[this]
   exact List.mem_cons_self
  ·exact List.mem_cons_of_mem _ (link_mem e)
def World.markB (w:World) (b:Nat) (c:Array Value) (t:TypeId):World:=World.putObj w b (.cells c t (c.size,c.size+1))
theorem run_mark0 {P:Program}{b o:Nat}{sp:Option Nat}{c:Array Value}{t:TypeId}(h:w.heap[b]?=some (.cells c t (0,0))):(markStringish ⟨b,o,sp⟩).run P w=.ok () (World.markB w b c t):=by
 have h1:w.shape? b=some (t,c.size):=by simp[World.shape?,h]
 have h2:w.freeze ⟨b,c.size,none⟩ 1=World.markB w b c t:=by
  have:(w.heap.modify b fun | .cells c' elem (lo,hi)=>.cells c' elem (if lo==hi then (c.size,c.size+1) else (min lo c.size,max hi (c.size+1))) | o=>o)=w.heap.setIfInBounds b (.cells c t (c.size,c.size+1)):=by
   apply Array.ext
   ·simp
   ·intro i h1 h2
    rw[Array.getElem_modify,Array.getElem_setIfInBounds]
    split
    ·rename_i q;subst q
     obtain⟨_,h3⟩:=Array.getElem?_eq_some_iff.1 h
     rw[h3]
     simp
    ·rfl
  unfold World.freeze
  rw[if_neg (by decide)]
  exact congrArg (fun hp=>({ w with heap:=hp }:World)) this
 simp[markStringish,h1,h2]
theorem mark_cell {b:Nat}{c:Array Value}{t:TypeId}{f:Nat×Nat}(h:w.heap[b]?=some (.cells c t f)) (x:Addr):(World.markB w b c t).cell? x=w.cell? x:=by
 by_cases q:x.block=b
 ·unfold World.cell?
  rw[q,World.markB,putObj_same h,h]
 ·exact World.cell?_of_block (putObj_other q)
theorem mark_heap {b:Nat}{c:Array Value}{t:TypeId}(h:w.heap[b]?=some (.cells c t (0,0))) {k:Nat}{o:Obj}(hk:w.heap[k]?=some o) :
  (World.markB w b c t).heap[k]?=some o∨(k=b∧o=.cells c t (0,0)∧(World.markB w b c t).heap[k]?=some (.cells c t (c.size,c.size+1))):=by
 by_cases q:k=b
 ·subst q
  rw[h] at hk
  exact .inr ⟨rfl,(Option.some.inj hk).symm,putObj_same h⟩
 ·exact .inl (by rw[World.markB,putObj_other q];exact hk)
theorem ORel.marked {o:BObj}{c:Array Value}{t:TypeId}(h:ORel X G o (.cells c t (0,0))):ORel X G o (.cells c t (c.size,c.size+1)):=by
 cases h with
 |cells cs cp rc t f g1 g2 g3=>exact .cells cs cp rc t _ g1 (fun i hi q=>by simp at q;omega) g3
theorem SR.markB (h:SR X N G st a w) {b:Nat}{c:Array Value}{t:TypeId}(hb:w.heap[b]?=some (.cells c t (0,0))):SR X N G st a (World.markB w b c t):=by
 have hrel:∀{k:Nat}{ro:Obj}{o:BObj},w.heap[k]?=some ro→ORel X G o ro→∃ro',(World.markB w b c t).heap[k]?=some ro'∧ORel X G o ro':=by
  intro k ro o h1 h2
  rcases mark_heap hb h1 with q | ⟨_,rfl,q⟩
  ·exact⟨ro,q,h2⟩
  ·exact⟨_,q,h2.marked⟩
 refine { size:=h.size,env:=h.env,own:=h.own,lk:=?_,lb:=?_,lbown:=?_,lbdom:=h.lbdom,mr:=?_,wf:=?_ }
 ·intro i l hm
  have hl:=h.lk i l hm
  cases l with
  |slot j=>exact hl
  |L k off=>obtain⟨b',e1,e2⟩:=hl;exact⟨b',e1,by rw[mark_cell hb];exact e2⟩
  |B k off=>obtain⟨b',e1,e2⟩:=hl;exact⟨b',e1,by rw[mark_cell hb];exact e2⟩
  |marked =>
   intro b' o' sp len cap e
   obtain⟨c',t',f',hc,hf⟩:=hl b' o' sp len cap e
   rcases mark_heap hb hc with q | ⟨_,q,q2⟩
   ·exact⟨c',t',f',q,hf⟩
   ·exact⟨_,_,_,q2,.inl rfl⟩
 ·intro k hn
  obtain⟨b',ro,e1,e2,e3⟩:=h.lb k hn
  obtain⟨ro',q1,q2⟩:=hrel e2 e3
  exact⟨b',ro',e1,q1,q2⟩
 ·intro k cs cp off sz e1 e2 b' r e3 e4
  rw[mark_cell hb] at e4
  exact h.lbown k cs cp off sz e1 e2 b' r e3 e4
 ·refine { bx:=?_,own:=?_,dom:=h.mr.dom,hid:=h.mr.hid }
  ·intro id hn
   obtain⟨b',ro,e1,e2,e3⟩:=h.mr.bx id hn
   obtain⟨ro',q1,q2⟩:=hrel e2 e3
   exact⟨b',ro',e1,q1,q2⟩
  ·intro id cs cp off sz e1 e2 b' r e3 e4
   rw[mark_cell hb] at e4
   exact h.mr.own id cs cp off sz e1 e2 b' r e3 e4
 ·refine { imm:=fun k i v e=>by rw[mark_cell hb];exact h.wf.imm k i v e,inj:=h.wf.inj,linj:=h.wf.linj,disj:=h.wf.disj,boxlt:=fun k q=>by simpa[World.markB] using h.wf.boxlt k q,boximm:=h.wf.boximm,boxow:=h.wf.boxow,owimm:=h.wf.owimm,owcell:=?_,glob:=h.wf.glob,old:=by simpa[World.markB] using h.wf.old }
  intro k i l e
  obtain⟨q1,q2⟩:=h.wf.owcell k i l e
  refine⟨by rw[mark_cell hb];exact q1,?_⟩
  by_cases q:k=b
  ·subst q
   obtain⟨v,hv⟩:=Option.isSome_iff_exists.1 q1
   rw[cell_of_heap (rc:=c.toList) (by simpa using hb)] at hv
   have hlt:=(List.getElem?_eq_some_iff.1 hv).1
   have hp:(World.markB w k c t).heap[k]?=some (.cells ⟨c.toList⟩ t (c.size,c.size+1)):=by
    rw[World.markB,putObj_same hb]
   rw[frozen_of_heap hp]
   simp only[Array.length_toList] at hlt
   simp;omega
  ·unfold World.frozen? at q2 ⊢
   rw[World.markB,putObj_other (show (⟨k,i,none⟩:Addr).block≠b from q)]
   exact q2
theorem Step.markB {b:Nat}{c:Array Value}{t:TypeId}(hb:w.heap[b]?=some (.cells c t (0,0))) (ho:G.old≤b):Step G w G (World.markB w b c t) where
 os:=rfl
 tape:=rfl
 output:=rfl
 size:=by simp[World.markB]
 imm _ _ _ h:=h
 bx _ _ h:=h
 other k x h nb nc:=by
  rcases mark_heap hb h with q | ⟨_,q,_⟩
  ·exact q
  ·exact absurd q (nc _ _ _)
 cells k c' t' f h nb:=by
  rcases mark_heap hb h with q | ⟨rfl,q,q2⟩
  ·exact⟨c',f,q,rfl,fun _ _=>rfl,.inl rfl⟩
  ·simp only[Obj.cells.injEq] at q
   obtain⟨rfl,rfl,rfl⟩:=q
   exact⟨_,_,q2,rfl,fun _ _=>rfl,.inr ⟨ho,rfl,rfl⟩⟩
 immNew _ _ _ _ _ h:=.inl h
 owNew _ _ _ _ h:=by simp[h]
 boxNew _ _ h:=h
 hid:=rfl
 old:=rfl
 bxNew _ _ h:=.inl h
 loop k L h:=by
  rcases mark_heap hb h with q | ⟨_,q,_⟩
  ·exact⟨L,q⟩
  ·cases q
theorem same_sound (h:SR X N G st a w) (call:CallT) {t e:TypeId}{x:Operand}{x':Arg}(ht:X.P.underlying t=some (.slice e)) (he:X.P.underlying e=some (.int .u8)) (hx:ArgR X.rows x x')
  {v:IV}{c:Cap}{st':St}(hr:(IK.same x').run call st=some (v,c,st')) (o:Oper) (ho:o.op=.convert t t x) :
  ∃r w' G',OpRun X.P o a.eval w r w'∧OR X N G w st' a v c r G' w':=by
 simp only[IK.run] at hr
 split at hr
 ·rename_i _ _ row len i e1
  cases hx with
  |tmp =>
   have hv:=h.rd (ArgR.tmp i) e1
   split at hr
   ·rename_i hl
    have hlk:=h.lk i .marked (link_mem hl)
    have hvr:=SV.vr hv rfl
    have hs:∃b o' sp cap,a.eval (.tmp i)=.slice (some ⟨b,o',sp⟩) len cap:=by
     generalize a.eval (.tmp i)=q at hvr ⊢
     cases hvr with
     |sl _ _ b o' cap g g1 g2 g3=>exact⟨b,o',none,cap,rfl⟩
     |sl0 a0=>exact⟨a0.block,a0.off,a0.spot,0,rfl⟩
    obtain⟨b,o',sp,cap,hs⟩:=hs
    have hmark:∃w',OpRun X.P o a.eval w (a.eval (.tmp i)) w'∧SR X N G st a w'∧Step G w G w':=by
     obtain⟨cc,tt,ff,hc,hf⟩:=hlk b o' sp len cap hs
     rcases hf with rfl | ⟨rfl,hold⟩
     ·exact⟨w,.inl (by simp[execOp,ho,convert,run_und ht,run_und he,hs,run_mark hc]),h,Step.refl _ _⟩
     ·exact⟨_,.inl (by simp[execOp,ho,convert,run_und ht,run_und he,hs,run_mark0 hc]),h.markB hc,Step.markB hc hold⟩
    obtain⟨w',hrun,h',s'⟩:=hmark
    split at hr
    ·rename_i sz hc
     split at hr
     ·rename_i st1 hd
      simp only[Option.some.injEq,Prod.mk.injEq] at hr
      obtain⟨rfl,rfl,rfl⟩:=hr
      obtain⟨G',hG⟩:=own_move h' hc hd hv
      exact⟨_,w',G',hrun,OR.after s' hG⟩
     ·cases hr
    ·simp only[Option.some.injEq,Prod.mk.injEq] at hr
     obtain⟨rfl,rfl,rfl⟩:=hr
     exact⟨_,w',G,hrun,OR.after s' (OR.same h' hv)⟩
   ·cases hr
 ·cases hr
theorem make_run (w : World) {P : Program} {t e : TypeId} {zero : List IV} {d : TypeDesc} {n bytes : Nat} {ag : Bool} (ht : P.underlying t = some (.slice e)) (hs : TyR P e d n bytes ag) (hz : ZeroR P e zero) {kl kc : IntKind} {l c : Int} (h0 : 0 ≤ l) (hlc : l ≤ c) (hb : c * bytes ≤ maxLenI) (hc : c ≤ maxLenI) :
    ∃ rc : List Value, (Instr.makeSlice t (.int kl l) (.int kc c)).run P w = .ok (.slice (some ⟨w.heap.size, 0, none⟩) l.toNat c.toNat) (w.alloc (.cells ⟨rc⟩ e)) ∧ rc.length = c.toNat * n ∧ ∀ G, VRs G (repl zero c.toNat) rc := by
  obtain ⟨i, z, hi, hiz, hlen, hsz, hzr⟩ := hz
  obtain ⟨i', q1, q2, q3⟩ := hs.info
  rw [hi] at q1
  simp only [Option.some.injEq] at q1
  subst q1
  have hzs : z.cells.size = n := by have : z.cells.toList.length = z.cells.size := by simp
                                    omega
  refine ⟨(madeCells z.cells (c.toNat * i.size)).toList, run_make w t e i z ht hi hiz kl kc l c h0 hlc (by rw [q3, Int.mul_comm]; unfold maxLenI at hb; omega) (by unfold maxLenI at hc; omega), by rw [q2]; simp [madeCells], fun G => ?_⟩
  have := repl_sound (G := G) (hzr G) c.toNat
  rw [hzs] at this
  rw [q2]
  unfold madeCells
  rw [hzs]
  exact this
theorem repl_take (zero:List IV):∀(n m:Nat),n≤m→(repl zero m).take (repl zero n).length=repl zero n
 |0,m,_=>by simp[repl]
 |n+1,0,h=>by omega
 |n+1,m+1,h=>by
  simp only[repl,List.length_append]
  rw[List.take_length_add_append,repl_take zero n m (by omega)]
theorem makeI_sound (h:SR X N G st a w) (call:CallT) {t e:TypeId}{x y:Operand}{x' y':Arg}{zero:List IV}{d:TypeDesc}{n bytes:Nat}{ag:Bool}(ht:X.P.underlying t=some (.slice e)) (hs:TyR X.P e d n bytes ag) (hz:ZeroR X.P e zero)
  (hx:ArgR X.rows x x') (hy:ArgR X.rows y y') {v:IV}{c:Cap}{st':St}(hr:(IK.makeI n bytes zero x' y').run call st=some (v,c,st')) (o:Oper) (ho:o.op=.makeSlice t x y) :
  ∃r w' G',OpRun X.P o a.eval w r w'∧OR X N G w st' a v c r G' w':=by
 simp only[IK.run] at hr
 split at hr
 ·rename_i l cc e1 e2
  have h1:=(h.rd hx e1).int_inv
  have h2:=(h.rd hy e2).int_inv
  split at hr
  ·rename_i hc
   obtain⟨c1,c2,c3,c4⟩:=hc
   simp only[Option.some.injEq,Prod.mk.injEq] at hr
   obtain⟨rfl,rfl,rfl⟩:=hr
   obtain⟨rc,k1,k2,k3⟩:=make_run w (kl:=.i64) (kc:=.i64) ht hs hz c1 c2 c3 c4
   have hle:l.toNat≤cc.toNat:=by omega
   have hg:=newRow_sound h (Grown1.alloc w (.cells ⟨rc⟩ e)) (row:=repl zero l.toNat) (len:=l.toNat) (cap:=cc.toNat) (sz:=n) (by rw[repl_length,hz.size hs]) k2 hle (fun i _ q=>by simp at q)
    (by have:=(k3 G.pl).take (repl zero l.toNat).length;rw[repl_take _ _ _ hle] at this;exact this)
   exact⟨_,_,_,.inl (by simp only[execOp,ho,h1,h2,Sem.run_bind,k1,Result.andThen_ok,Sem.run_pure]),hg⟩
  ·cases hr
 ·cases hr
theorem makeB_sound (h:SR X N G st a w) (call:CallT) {t e:TypeId}{x y:Operand}{x' y':Arg}{zero:List IV}{d:TypeDesc}{n bytes:Nat}{ag:Bool}(ht:X.P.underlying t=some (.slice e)) (hs:TyR X.P e d n bytes ag) (hz:ZeroR X.P e zero)
  (hx:ArgR X.rows x x') (hy:ArgR X.rows y y') {v:IV}{c:Cap}{st':St}(hr:(IK.makeB n bytes zero x' y').run call st=some (v,c,st')) (o:Oper) (ho:o.op=.makeSlice t x y) :
  ∃r w' G',OpRun X.P o a.eval w r w'∧OR X N G w st' a v c r G' w':=by
 simp only[IK.run] at hr
 split at hr
 ·rename_i l cc e1 e2
  have h1:=(h.rd hx e1).int_inv
  have h2:=(h.rd hy e2).int_inv
  split at hr
  ·rename_i hc
   obtain⟨c1,c2,c3,c4⟩:=hc
   obtain⟨rc,k1,k2,k3⟩:=make_run w (kl:=.i64) (kc:=.i64) ht hs hz c1 c2 c3 c4
   obtain⟨G',hG⟩:=newG_sound (v0:=.sB st.m.size 0 l.toNat n) h (Grown1.alloc w (.cells ⟨rc⟩ e)) hr (ORel.new e [] (k3 G)) (by simp) (fun cs cp' off sz e1 e2=>by cases e1;exact zipCap_own _ _ _ _ e2)
    (r:=.slice (some ⟨w.heap.size,0,none⟩) l.toNat cc.toNat) (fun G' e=>VR.sB _ _ _ _ _ _ e (by omega))
   exact⟨_,_,G',.inl (by simp only[execOp,ho,h1,h2,Sem.run_bind,k1,Result.andThen_ok,Sem.run_pure]),hG⟩
  ·cases hr
 ·cases hr
theorem srcOf_first (h:SR X N G st a w) {sz k:Nat}{x:IV}{xs:List IV}(hs:srcOf st.lb st.m sz x=some (xs,k)) {r:Value}(hv:SV G x r) (hlen:xs.length=k*sz) (P:Program) :
  ∃news,VRs G xs news∧(Builtin.lenOf r).run P w=.ok k w∧∀n,n≤k→(Builtin.firstCells sz n r).run P w=.ok ⟨news.take (n*sz)⟩ w:=by
 unfold srcOf at hs
 split at hs
 ·simp only[Option.some.injEq,Prod.mk.injEq] at hs
  obtain⟨rfl,rfl⟩:=hs
  cases hv
  exact⟨[],VRs.nil,rfl,fun n _=>by simp[Builtin.firstCells]⟩
 ·rename_i row k'
  simp only[Option.some.injEq,Prod.mk.injEq] at hs
  obtain⟨rfl,rfl⟩:=hs
  have hvr:=SV.vr hv rfl
  cases hvr with
  |sl0 a0 =>
   refine⟨[],VRs.nil,rfl,fun n hn=>?_⟩
   obtain rfl:n=0:=by omega
   have:=run_firstCells_some (P:=P) w sz 0 a0 0 0 [] (by simp) (by intro j v e;simp at e)
   simpa using this
  |sl _ _ b o cap g h1 h2 h3 =>
   refine⟨(List.range row.length).map g,VRs.of_forall (by simp) ?_,rfl,fun n hn=>?_⟩
   ·intro i v r e1 e2
    have hi:i<row.length:=(List.getElem?_eq_some_iff.1 e1).1
    simp[hi] at e2
    subst e2
    obtain⟨_,rfl⟩:=List.getElem?_eq_some_iff.1 e1
    exact (h2 i hi).ofPl
   ·have hle:n*sz≤row.length:=by rw[hlen];exact Nat.mul_le_mul_right _ hn
    have:=run_firstCells_some (P:=P) w sz n ⟨b,o,none⟩ k' cap (((List.range row.length).map g).take (n*sz)) (by simp;omega) (by
     intro j v e
     rw[List.getElem?_take] at e
     split at e
     ·rename_i hj
      have hj':j<row.length:=by omega
      simp[hj'] at e
      subst e
      rw[add_none]
      exact h.wf.imm _ _ _ (h1 j hj')
     ·cases e)
    simpa using this
 ·rename_i s
  split at hs
  ·rename_i hsz
   subst hsz
   simp only[Option.some.injEq,Prod.mk.injEq] at hs
   obtain⟨rfl,rfl⟩:=hs
   have hr:=hv.str_inv
   subst hr
   refine⟨s.map fun b=>Value.int .u8 b.toNat,bytesCells_sound s,rfl,fun n hn=>?_⟩
   simp only[Builtin.firstCells,Sem.run_pure]
   congr 1
   apply Array.ext'
   simp[ByteArray.extract,ByteArray.copySlice]
  ·cases hs
 ·rename_i id off k' sz'
  split at hs
  ·rename_i hsz
   subst hsz
   cases e:cellsAt st.lb st.m (.pB id off) (k'*sz') with
   |none=>rw[e] at hs;cases hs
   |some cs =>
    rw[e] at hs
    simp only[Option.some.injEq,Prod.mk.injEq] at hs
    obtain⟨rfl,rfl⟩:=hs
    cases hv with
    |sB _ _ _ _ b cap hb hc =>
     obtain⟨b',o',rs,h1,h2,h3,h4⟩:=cellsAt_sound h e (SV.of (VR.pB id off b hb))
     simp only[Value.pointer.injEq,Option.some.injEq,Addr.mk.injEq,and_true] at h1
     obtain⟨rfl,rfl⟩:=h1
     refine⟨rs,h2,rfl,fun n hn=>?_⟩
     have hle:n*sz'≤rs.length:=by rw[h2.1,hlen];exact Nat.mul_le_mul_right _ hn
     have:=run_firstCells_some (P:=P) w sz' n ⟨b,off,none⟩ k' cap (rs.take (n*sz')) (by simp;omega) (by
      intro j v e
      rw[List.getElem?_take] at e
      split at e
      ·rw[add_none];exact h4 j v e
      ·cases e)
     simpa using this
  ·cases hs
 ·cases hs
theorem copy_sound (h:SR X N G st a w) (call:CallT) {t u e:TypeId}{x y:Operand}{x' y':Arg}{d:TypeDesc}{n bytes:Nat}{ag:Bool}(ht:X.P.underlying t=some (.slice e)) (hs:TyR X.P e d n bytes ag)
  (hx:ArgR X.rows x x') (hy:ArgR X.rows y y') {v:IV}{c:Cap}{st':St}(hr:(IK.copy n x' y').run call st=some (v,c,st')) (o:Oper) (ho:o.op=.call ⟨.builtin .copy,#[x,y],#[t,u]⟩) :
  ∃r w' G',OpRun X.P o a.eval w r w'∧OR X N G w st' a v c r G' w':=by
 have fin:∀{r:Value}{w':World},(Builtin.copy_ #[t,u] o.type #[a.eval x,a.eval y]).run X.P w=.ok r w'→OpRun X.P o a.eval w r w':=fun q =>
  .inl (by simp only[execOp,ho,resolve,Sem.run_bind,Sem.run_pure,Result.andThen_ok,invoke,builtin];simp[q])
 simp only[IK.run] at hr
 split at hr
 ·rename_i dv sv e1 e2
  have hdv:=h.rd hx e1
  have hsv:=h.rd hy e2
  split at hr
  ·rename_i id off dl _ xs k e3
   split at hr
   ·cases hr
   ·rename_i hlen
    have hlen:xs.length=k*n:=by simpa using hlen
    split at hr
    ·rename_i st2 hst
     simp only[Option.some.injEq,Prod.mk.injEq] at hr
     obtain⟨rfl,rfl,rfl⟩:=hr
     obtain⟨news,k1,k2,k3⟩:=srcOf_first h e3 hsv hlen X.P
     have hvr:=SV.vr hdv rfl
     generalize hq:a.eval x=q at hvr
     cases hvr with
     |sB _ _ _ _ b cap hb hc =>
      obtain⟨b',o',h1,h2,h3,h4,h5⟩:=storeI_sound h hst (SV.of (VR.pB id off b hb)) (k1.take (Nat.min k dl*n)) (fun sz e=>by cases e)
      simp only[Value.pointer.injEq,Option.some.injEq,Addr.mk.injEq,and_true] at h1
      obtain⟨rfl,rfl⟩:=h1
      have hstore:=(h3 w).resolve_right (fun q=>q rfl)
      refine⟨goInt (Nat.min k dl),_,G,fin ?_,h4,VR.int _ _,h5,fun _ e=>by cases e⟩
      simp only[Builtin.copy_,hq,Sem.run_bind,run_und ht,run_size hs,Result.andThen_ok,k2,k3 _ (Nat.min_le_left _ _),hstore,Sem.run_pure,List.getElem?_toArray,List.getElem?_cons_zero,List.getElem?_cons_succ]
    ·cases hr
  ·rename_i _ xs k e3
   split at hr
   ·cases hr
   ·rename_i hlen
    have hlen:xs.length=k*n:=by simpa using hlen
    simp only[Option.some.injEq,Prod.mk.injEq] at hr
    obtain⟨rfl,rfl,rfl⟩:=hr
    obtain⟨news,k1,k2,k3⟩:=srcOf_first h e3 hsv hlen X.P
    generalize hq:a.eval x=q at hdv
    cases hdv
    have k4:=k3 0 (Nat.zero_le _)
    refine⟨goInt 0,w,G,fin ?_,OR.same h (VR.int _ _)⟩
    simp only[Builtin.copy_,hq,Sem.run_bind,run_und ht,run_size hs,Result.andThen_ok,k2,show Nat.min k 0=0 from Nat.min_zero k,k4,Sem.run_pure,List.getElem?_toArray,List.getElem?_cons_zero,List.getElem?_cons_succ]
    rfl
  ·cases hr
 ·cases hr
theorem bytesM_sound (h:SR X N G st a w) (call:CallT) {s d e:TypeId}{x:Operand}{x':Arg}(hs':X.P.underlying s=some (.slice e)) (he:X.P.underlying e=some (.int .u8)) (hd:X.P.underlying d=some .string) (hx:ArgR X.rows x x')
  {v:IV}{c:Cap}{st':St}(hr:(IK.bytesM x').run call st=some (v,c,st')) (o:Oper) (ho:o.op=.convert s d x):∃r w' G',OpRun X.P o a.eval w r w'∧OR X N G w st' a v c r G' w':=by
 simp only[IK.run] at hr
 split at hr
 ·rename_i v0 e1
  split at hr
  ·rename_i t e2
   simp only[Option.some.injEq,Prod.mk.injEq] at hr
   obtain⟨rfl,rfl,rfl⟩:=hr
   have hv:=h.rd hx e1
   unfold bytesAt at e2
   split at e2
   ·cases e2
   ·rename_i hns
    split at e2
    ·rename_i xs n e3
     split at e2
     ·rename_i hl
      have hl:=Nat.eq_of_beq_eq_true hl
      obtain⟨news,h1,h2⟩:=srcOf_sound h e3 hv (by omega)
      have hrun:(∃q l cp,a.eval x=.slice q l cp)∧(Conv.bytesToString (a.eval x)).run X.P w=.ok (.string ⟨⟨t⟩⟩) w:=by
       have hfc:=h1.cells
       have hln:=h1.len w
       have hb:=byteVals_sound h2 e2
       generalize a.eval x=r at hv hfc hln
       have key:∀(b:Addr) (l cp:Nat),r=.slice (some b) l cp→(∃q l cp,r=.slice q l cp)∧(Conv.bytesToString r).run X.P w=.ok (.string ⟨⟨t⟩⟩) w:=by
        rintro b l cp rfl
        refine⟨⟨_,_,_,rfl⟩,?_⟩
        have hn:l=n:=by simpa[Builtin.lenOf] using hln
        subst hn
        simp only[Builtin.firstCells,Nat.mul_one] at hfc
        simp only[Conv.bytesToString,Sem.run_bind,Result.andThen_ok,hfc]
        rw[←Array.forIn_toList,hb X.P _ (fun n acc=>rfl)]
        simp
       cases v0 with
       |nilSlice =>
        cases hv
        simp only[srcOf,Option.some.injEq,Prod.mk.injEq] at e3
        obtain⟨rfl,_⟩:=e3
        simp only[byteVals,Option.some.injEq] at e2
        subst e2
        exact⟨⟨_,_,_,rfl⟩,rfl⟩
       |sl row k =>
        cases SV.vr hv rfl with
        |sl0 a0=>exact key _ _ _ rfl
        |sl _ _ b o cap g g1 g2 g3=>exact key _ _ _ rfl
       |sB id off k sz =>
        cases hv with
        |sB _ _ _ _ b cap hb hc=>exact key _ _ _ rfl
       |str s=>exact absurd rfl (hns s)
       |_=>simp only[srcOf] at e3;cases e3
      refine⟨.string ⟨⟨t⟩⟩,w,G,.inl ?_,OR.same h (VR.str t)⟩
      obtain⟨⟨q,l,cp,hq⟩,hrun⟩:=hrun
      rw[hq] at hrun
      simp only[execOp,ho,hq,convert,run_und hs',run_und hd,run_und he,Sem.run_bind,Result.andThen_ok,hrun,Sem.run_pure]
     ·cases e2
    ·cases e2
  ·cases hr
 ·cases hr
end Go.Idl
