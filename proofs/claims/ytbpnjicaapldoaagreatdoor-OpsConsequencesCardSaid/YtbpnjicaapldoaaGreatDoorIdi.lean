/- This text proves what the variables of the program read as, and how a run gives a call of the program; it has no conditions. -/
import Derived.Test.YtbpnjicaapldoaaGreatDoorIde
import Derived.FnData
import Derived.LaidHandle
import Derived.Test.YtbpnjicaapldoaaGreatDoorIdd
set_option linter.unusedSimpArgs false
set_option linter.unusedVariables false
namespace Go.Idl
open Go.RowKit
section
variable {H:Type}
def dStr (P:Program) (r:TypeId→DataW H→Option (List IV)):Nat→List Field→List (DataW H)→Option (List IV)
 |_,[],[]=>some []
 |off,f::fs,d::ds=>match Nat.beq f.offset off,r f.type d,dStr P r (off+P.cellsOf f.type) fs ds with
  |true,some a,some b=>match Nat.beq a.length (P.cellsOf f.type) with
   |true=>some (a++b)
   |false=>none
  |_,_,_=>none
 |_,_,_=>none
def dArr (r:DataW H→Option (List IV)) (sz:Nat):Nat→List (DataW H)→Option (List IV)
 |0,[]=>some []
 |n+1,d::ds=>match r d,dArr r sz n ds with
  |some a,some b=>match Nat.beq a.length sz with
   |true=>some (a++b)
   |false=>none
  |_,_=>none
 |_,_=>none
def ofLen (n:Nat):Option (List IV)→Option (List IV)
 |some r=>match Nat.beq r.length n with
  |true=>some r
  |false=>none
 |none=>none
theorem ofLen_s {n:Nat}{o:Option (List IV)}{r:List IV}(h:ofLen n o=some r):o=some r∧r.length=n:=by
 unfold ofLen at h
 split at h
 ·split at h
  ·rename_i e;cases h;exact⟨rfl,Nat.eq_of_beq_eq_true e⟩
  ·cases h
 ·cases h
def dRow (P:Program) (tok:H→Option FuncId):Nat→TypeId→DataW H→Option (List IV)
 |0,_,_=>none
 |n+1,t,d=>match P.underlying t with
  |some .bool=>match d with | .lit (.bool b)=>some [.bool b] | _=>none
  |some (.int k)=>match d with | .lit (.int _ i)=>some [.int k i] | _=>none
  |some .string=>match d with | .lit (.string s)=>some [.str s] | _=>none
  |some (.struct fs)=>match d with | .agg ds=>ofLen (P.cellsOf t) (dStr P (dRow P tok n) 0 fs.toList ds) | _=>none
  |some (.array m e)=>match d with | .agg ds=>ofLen (P.cellsOf t) (dArr (dRow P tok n e) (P.cellsOf e) m ds) | _=>none
  |some (.func _ _ _)=>match d with
   |.held h=>match tok h with
    |some f=>some [.func f [] []]
    |none=>none
   |_=>none
  |_=>none
variable {enc:TypeId×Value→H}{P:Program}{w:World}{base:Nat}{sp:Nat→Bool}{held:Bool}
theorem mapM_cons_some {α β:Type}{f:α→Option β}{a:α}{l:List α}{r:List β}(h:(a::l).mapM f=some r):∃b bs,f a=some b∧l.mapM f=some bs∧r=b::bs:=by
 rw[List.mapM_cons] at h
 simp only[bind,Option.bind_eq_some_iff,pure,Option.some.injEq] at h
 obtain⟨b,h1,bs,h2,h3⟩:=h
 exact⟨b,bs,h1,h2,h3.symm⟩
theorem take_add_drop (cs:List Value) (off a b:Nat):(cs.drop off).take (a+b)=(cs.drop off).take a++(cs.drop (off+a)).take b:=by
 rw[List.take_add,List.drop_drop]
theorem dStr_sound {tok:H→Option FuncId}{n fuel:Nat}{cs:List Value}(ih:∀t cs d ps row,DataW.trod enc P w base sp held fuel t cs=some (d,ps)→dRow P tok n t d=some row→∀G,VRs G row cs) :
  ∀(fs:List Field) (off:Nat) (xs:List (DataW H×List MemPlace)) (row:List IV),
   fs.mapM (fun f=>DataW.trod enc P w base sp held fuel f.type ((cs.drop f.offset).take (P.cellsOf f.type)))=some xs →
   dStr P (dRow P tok n) off fs (xs.map (·.1))=some row→∀G,VRs G row ((cs.drop off).take row.length)
 |[],off,xs,row,h,hr,G=>by
  simp at h;subst h
  simp only[List.map_nil,dStr,Option.some.injEq] at hr
  subst hr
  exact VRs.nil
 |f::fs,off,xs,row,h,hr,G=>by
  obtain⟨x,ys,h1,h2,rfl⟩:=mapM_cons_some h
  simp only[List.map_cons,dStr] at hr
  split at hr
  ·rename_i a b e1 e2 e3
   split at hr
   ·rename_i hlen
    cases hr
    have hoff:=Nat.eq_of_beq_eq_true e1
    have hl:=Nat.eq_of_beq_eq_true hlen
    obtain⟨d,ps⟩:=x
    have p1:=ih _ _ _ _ _ h1 e2 G
    have p2:=dStr_sound ih fs _ ys b h2 e3 G
    rw[List.length_append,take_add_drop,hl]
    rw[hoff] at p1
    exact p1.append p2
   ·cases hr
  ·cases hr
theorem dArr_sound {tok:H→Option FuncId}{n fuel:Nat}{e:TypeId}{cs:List Value}(ih:∀t cs d ps row,DataW.trod enc P w base sp held fuel t cs=some (d,ps)→dRow P tok n t d=some row→∀G,VRs G row cs) :
  ∀(m k:Nat) (xs:List (DataW H×List MemPlace)) (row:List IV),
   (List.range' k m).mapM (fun i=>DataW.trod enc P w base sp held fuel e ((cs.drop (i*P.cellsOf e)).take (P.cellsOf e)))=some xs →
   dArr (dRow P tok n e) (P.cellsOf e) m (xs.map (·.1))=some row→∀G,VRs G row ((cs.drop (k*P.cellsOf e)).take row.length)
 |0,k,xs,row,h,hr,G=>by
  simp at h;subst h
  simp only[List.map_nil,dArr,Option.some.injEq] at hr
  subst hr
  exact VRs.nil
 |m+1,k,xs,row,h,hr,G=>by
  rw[List.range'_succ] at h
  obtain⟨x,ys,h1,h2,rfl⟩:=mapM_cons_some h
  simp only[List.map_cons,dArr] at hr
  split at hr
  ·rename_i a b e2 e3
   split at hr
   ·rename_i hlen
    cases hr
    have hl:=Nat.eq_of_beq_eq_true hlen
    obtain⟨d,ps⟩:=x
    have p1:=ih _ _ _ _ _ h1 e2 G
    have p2:=dArr_sound ih m (k+1) ys b h2 e3 G
    rw[List.length_append,take_add_drop,hl]
    rw[Nat.succ_mul] at p2
    exact p1.append p2
   ·cases hr
  ·cases hr
theorem dRow_sound {tok:H→Option FuncId}(htok:∀t v f,tok (enc (t,v))=some f→v=.func (.func f) #[] #[]):∀(fuel n:Nat) (t:TypeId) (cs:List Value) (d:DataW H) (ps:List MemPlace) (row:List IV),
  DataW.trod enc P w base sp held fuel t cs=some (d,ps)→dRow P tok n t d=some row→∀G,VRs G row cs
 |0,_,_,_,_,_,_,h,_=>by simp[DataW.trod] at h
 |fuel+1,0,_,_,_,_,_,_,hr=>by simp[dRow] at hr
 |fuel+1,n+1,t,cs,d,ps,row,h,hr=>by
  intro G
  have ih:=fun t cs d ps row h hr=>dRow_sound htok fuel n t cs d ps row h hr
  simp only[dRow] at hr
  split at hr
  ·rename_i ht
   split at hr
   ·rename_i b
    cases hr
    simp only[DataW.trod,ht] at h
    split at h<;>simp_all
    rename_i q
    obtain⟨rfl,_⟩:=h
    exact VRs.cons (.bool _) VRs.nil
   ·cases hr
  ·rename_i k ht
   split at hr
   ·rename_i k' i
    cases hr
    simp only[DataW.trod,ht] at h
    split at h<;>simp_all
    obtain⟨⟨rfl,_⟩,⟨rfl,rfl⟩,_⟩:=h
    exact VRs.cons (.int _ _) VRs.nil
   ·cases hr
  ·rename_i ht
   split at hr
   ·rename_i s
    cases hr
    simp only[DataW.trod,ht] at h
    split at h<;>simp_all
    rename_i s'
    obtain⟨_,rfl,_⟩:=h
    obtain⟨⟨l⟩⟩:=s'
    exact VRs.cons (.str _) VRs.nil
   ·cases hr
  ·rename_i fs ht
   split at hr
   ·rename_i ds
    simp only[DataW.trod,ht] at h
    split at h
    ·rename_i hlen
     simp only[Option.map_eq_some_iff,Prod.mk.injEq,DataW.agg.injEq] at h
     obtain⟨xs,h1,rfl,_⟩:=h
     obtain⟨hr,hl⟩:=ofLen_s hr
     have:=dStr_sound ih fs.toList 0 xs row h1 hr G
     rwa [List.drop_zero,hl,←hlen,List.take_length] at this
    ·cases h
   ·cases hr
  ·rename_i m e ht
   split at hr
   ·rename_i ds
    simp only[DataW.trod,ht] at h
    split at h
    ·rename_i hlen
     simp only[Option.map_eq_some_iff,Prod.mk.injEq,DataW.agg.injEq] at h
     obtain⟨xs,h1,rfl,_⟩:=h
     rw[List.range_eq_range'] at h1
     obtain⟨hr,hl⟩:=ofLen_s hr
     have:=dArr_sound ih m 0 xs row h1 hr G
     rwa [Nat.zero_mul,List.drop_zero,hl,←hlen,List.take_length] at this
    ·cases h
   ·cases hr
  ·rename_i ht
   split at hr
   ·rename_i q
    split at hr
    ·rename_i f hf
     cases hr
     simp only[DataW.trod,ht] at h
     split at h<;>simp_all
     obtain⟨_,rfl,_⟩:=h
     rw[htok _ _ _ hf]
     exact VRs.cons (.func f [] [] [] [] rfl rfl (fun i h=>absurd h (by simp)) (fun i h=>absurd h (by simp))) VRs.nil
    ·cases hr
   ·cases hr
  ·cases hr
end
end Go.Idl
namespace Go.Idl
open Go.RowKit
variable {X:Ctx}{w w':World}
def gh0 (w:World):Gh:=⟨fun b o=>w.cell? ⟨b,o,none⟩,fun _=>none,fun _=>none,fun _ _=>none,fun _=>false,w.heap.size⟩
def RowsAt (X:Ctx) (w:World):Prop:=∀g row,X.rows g=some row→∃cs:List Value,(∀i,w.cell? ⟨g,i,none⟩=cs[i]?)∧∀G,VRs G row cs
theorem gh0_wf (h:RowsAt X w):WF X (gh0 w) w where
 imm _ _ _ e:=e
 inj _ _ _ e:=by cases e
 linj _ _ _ e:=by cases e
 disj _ _ _ e:=by cases e
 boxlt b h:=by rcases h with ⟨_,e⟩ | ⟨_,e⟩<;>cases e
 boximm b o h:=by rcases h with ⟨_,e⟩ | ⟨_,e⟩<;>cases e
 boxow b o h:=by rcases h with ⟨_,e⟩ | ⟨_,e⟩<;>cases e
 owimm _ _ _ e:=by cases e
 owcell _ _ _ e:=by cases e
 glob g row e:=by
  obtain⟨cs,h1,h2⟩:=h g row e
  have hl:=(h2 (gh0 w)).1
  have:=VR.pI (G:=gh0 w) row 0 g 0 (fun i=>cs.getD i undef) (fun i hi=>by
    have hi':i<cs.length:=by omega
    show w.cell? ⟨g,0+i,none⟩=_
    rw[Nat.zero_add,h1 i,List.getD_eq_getElem?_getD,List.getElem?_eq_getElem hi']
    rfl) (fun i hi=>by
    have hi':i<cs.length:=by omega
    have:=(h2 (gh0 w).pl).2 i hi hi'
    rw[List.getD_eq_getElem?_getD,List.getElem?_eq_getElem hi']
    exact this)
  exact this
 old:=Nat.le_refl _
theorem gh0_mr:MR X (gh0 w) ⟨[],0⟩ w where
 bx id h:=absurd (by simp[IM.get]) h
 own id cs cp off sz e:=by simp[IM.get] at e
 dom _ _ e:=by cases e
 hid _ e:=by cases e
theorem gh0_below {G':Gh}(s:Step (gh0 w) w G' w'):Below w.heap.size w w':=by
 have hop:∀b,¬(gh0 w).opn b:=fun b h=>by rcases h with ⟨_,e,_⟩ | ⟨_,e⟩<;>cases e
 refine⟨s.os,s.tape,s.output,s.size,fun k hk=>?_⟩
 have he:w.heap[k]?=some w.heap[k]:=Array.getElem?_eq_getElem hk
 rw[he]
 cases ho:w.heap[k] with
 |cells c t f =>
  rw[ho] at he
  obtain⟨c',f',h1,h2,h3,h4⟩:=s.cells k c t f he (hop k)
  have hc:c'=c:=Array.ext_getElem? fun i=>h3 i rfl
  have hf:f'=f:=by
   rcases h4 with h4 | ⟨h4,_⟩
   ·exact h4
   ·exact absurd h4 (by show ¬w.heap.size≤k;omega)
  rw[h1,hc,hf]
 |_ =>
  rw[ho] at he
  exact s.other k _ he (hop k) (fun c t f e=>by cases e)
theorem law_calls {call:CallT}(hc:CallOK X call) {f:FuncId}{fn:Func}(hf:X.P.funcs[f]?=some fn) (hb:fn.body.isNone=false) (hn:(fn.name == "runtime.NumGoroutine")=false) {args:List IV}{rs:List Value}{b:Bool}{m':IM}
  (hr:call (.f f) args ⟨[],0⟩=some (.bool b,m')) (hw:RowsAt X w) (ha:VRs (gh0 w) args rs):Calls X.P f ⟨rs⟩ w fun e w'=>e=.returned (.bool b)∧Below w.heap.size w w':=by
 have h:=(hc _ _ _ _ _ hr (gh0 w) w rs gh0_mr (gh0_wf hw) (fun _=>rfl) ha).1
 rcases h with ⟨-,h⟩ | ⟨r,w',h,-⟩
 ·refine (callsIn_wide.1 h).mono fun e w' ⟨r,h1,G',_,_,h4,h5⟩=>?_
  cases h4
  exact⟨h1,gh0_below h5⟩
 ·exfalso
  have hpr:(program).run X.P w=.ok X.P w:=rfl
  have h1:fn.name ≠ "runtime.NumGoroutine" := by simpa using hn
  cases hbb:fn.body with
  |none=>rw[hbb] at hb;cases hb
  |some c=>simp[callFunc,hpr,hf,h1,hbb] at h
theorem row_of_var {P:Program}{H:Type}{enc:TypeId×Value→H}{tok:H→Option FuncId}(htok:∀t v f,tok (enc (t,v))=some f→v=.func (.func f) #[] #[]) {name:String}{g:Nat}{t:TypeId}{cs:Array Value}{base fuel:Nat}{sp:Nat→Bool}{held:Bool}{d:DataW H}{ps:List MemPlace}{row:List IV}{n:Nat}
  (hg:P.globalNamed name=some g) (hv:w.var? P name=some cs) (h:DataW.trod enc P w base sp held fuel t cs.toList=some (d,ps)) (hr:dRow P tok n t d=some row) :
  ∃cs:List Value,(∀i,w.cell? ⟨g,i,none⟩=cs[i]?)∧∀G,VRs G row cs :=
 ⟨cs.toList,fun i=>by rw[World.var?_cell hg hv i];simp,fun G=>dRow_sound htok _ _ _ _ _ _ _ h hr G⟩
theorem laidVars_mem {P:Program}:∀{l:List (String×DataW Unit)}{ps:List MemPlace},DataW.LaidVars P w l ps→∀{n:String}{d:DataW Unit},(n,d)∈l →
  ∃g t cs fuel p,P.globalNamed n=some g∧(P.globals[g]?).map (·.type)=some t∧w.var? P n=some cs∧DataW.trod (fun _=>()) P w 0 (fun _=>true) false fuel t cs.toList=some (d,p)
 |[],_,_,_,_,h=>by cases h
 |(m,e)::r,ps,h,n,d,hm=>by
  obtain⟨g,t,cs,fuel,p,q,h1,h2,h3,h4,h5,_⟩:=h
  rcases List.mem_cons.1 hm with q | q
  ·cases q;exact⟨g,t,cs,fuel,p,h1,h2,h3,h4⟩
  ·exact laidVars_mem h5 q
theorem laidMetH_plainAt {P:Program}{l:List (String×DataW Unit)}(h:laidMetH P l w) {n:String}{d:DataW Unit}(hx:(n,d)∈l) (hn:d.handleName?.isNone=true) :
  ∃g t cs fuel p,P.globalNamed n=some g∧(P.globals[g]?).map (·.type)=some t∧w.var? P n=some cs∧DataW.trod (fun _=>()) P w 0 (fun _=>true) false fuel t cs.toList=some (d,p):=by
 unfold laidMetH at h
 split at h
 ·obtain⟨ps,h,_⟩:=h
  exact laidVars_mem h hx
 ·obtain⟨⟨ps,h,_⟩,_⟩:=h
  exact laidVars_mem h (List.mem_filter.2 ⟨hx,hn⟩)
theorem row_plain {P:Program}{l:List (String×DataW Unit)}(h:laidMetH P l w) {name:String}{d:DataW Unit}(hx:(name,d)∈l) (hn:d.handleName?.isNone=true) {g:Nat}(hg:P.globalNamed name=some g) {t:TypeId}(ht:(P.globals[g]?).map (·.type)=some t)
  {row:List IV}{n:Nat}(hr:dRow P (fun _=>none) n t d=some row):∃cs:List Value,(∀i,w.cell? ⟨g,i,none⟩=cs[i]?)∧∀G,VRs G row cs:=by
 obtain⟨g',t',cs,fuel,p,h1,h2,h3,h4⟩:=laidMetH_plainAt h hx hn
 obtain rfl:=Option.some.inj (hg.symm.trans h1)
 obtain rfl:=Option.some.inj (ht.symm.trans h2)
 exact row_of_var (fun _ _ _ e=>by cases e) hg h3 h4 hr
end Go.Idl
