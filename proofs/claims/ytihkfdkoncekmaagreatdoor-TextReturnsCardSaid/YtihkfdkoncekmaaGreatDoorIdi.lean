/- This text proves what the variables of the program read as, and how a run gives a call of the program; it has no conditions. -/
import Derived.Test.YtihkfdkoncekmaaGreatDoorIde
import Derived.FnData
import Derived.LaidHandle
import Derived.Test.YtihkfdkoncekmaaGreatDoorIdd
set_option linter.unusedSimpArgs false
set_option linter.unusedVariables false
namespace Go.Idl
open Go.RowKit
section
variable {H:Type}
def JC (P:Program) (r:TypeId→DataW H→Option (List IV)):Nat→List Field→List (DataW H)→Option (List IV)
 |_,[],[]=>some []
 |off,f::fs,d::ds=>match Nat.beq f.offset off,r f.type d,JC P r (off+P.cellsOf f.type) fs ds with
  |true,some a,some b=>match Nat.beq a.length (P.cellsOf f.type) with
   |true=>some (a++b)
   |false=>none
  |_,_,_=>none
 |_,_,_=>none
def JA (r:DataW H→Option (List IV)) (sz:Nat):Nat→List (DataW H)→Option (List IV)
 |0,[]=>some []
 |n+1,d::ds=>match r d,JA r sz n ds with
  |some a,some b=>match Nat.beq a.length sz with
   |true=>some (a++b)
   |false=>none
  |_,_=>none
 |_,_=>none
def Gi (n:Nat):Option (List IV)→Option (List IV)
 |some r=>match Nat.beq r.length n with
  |true=>some r
  |false=>none
 |none=>none
theorem Gj {n:Nat}{o:Option (List IV)}{r:List IV}(h:Gi n o=some r):o=some r∧r.length=n:=by
 unfold Gi at h;split at h
 ·split at h
  ·rename_i e;cases h;exact⟨rfl,Nat.eq_of_beq_eq_true e⟩
  ·cases h
 ·cases h
def uo (P:Program) (tok:H→Option FuncId):Nat→TypeId→DataW H→Option (List IV)
 |0,_,_=>none
 |n+1,t,d=>match P.underlying t with
  |some .bool=>match d with | .lit (.bool b)=>some [.bool b] | _=>none
  |some (.int k)=>match d with | .lit (.int _ i)=>some [.int k i] | _=>none
  |some .string=>match d with | .lit (.string s)=>some [.str s] | _=>none
  |some (.struct fs)=>match d with | .agg ds=>Gi (P.cellsOf t) (JC P (uo P tok n) 0 fs.toList ds) | _=>none
  |some (.array m e)=>match d with | .agg ds=>Gi (P.cellsOf t) (JA (uo P tok n e) (P.cellsOf e) m ds) | _=>none
  |some (.func _ _ _)=>match d with
   |.held h=>match tok h with
    |some f=>some [.func f [] []]
    |none=>none
   |_=>none
  |_=>none
variable {enc:TypeId×Value→H}{P:Program}{w:World}{base:Nat}{sp:Nat→Bool}{held:Bool}
theorem mf {α β:Type}{f:α→Option β}{a:α}{l:List α}{r:List β}(h:(a::l).mapM f=some r):∃b bs,f a=some b∧l.mapM f=some bs∧r=b::bs:=by rw[List.mapM_cons] at h;simp only[bind,Option.bind_eq_some_iff,pure,Option.some.injEq] at h;obtain⟨b,h1,bs,h2,h3⟩:=h;exact⟨b,bs,h1,h2,h3.symm⟩
theorem qc (cs:List Value) (off a b:Nat):(cs.drop off).take (a+b)=(cs.drop off).take a++(cs.drop (off+a)).take b:=by rw[List.take_add,List.drop_drop]
theorem wB {tok:H→Option FuncId}{n fuel:Nat}{cs:List Value}(ih:∀t cs d ps row,DataW.trod enc P w base sp held fuel t cs=some (d,ps)→uo P tok n t d=some row→∀G,c9 G row cs) :
  ∀(fs:List Field) (off:Nat) (xs:List (DataW H×List MemPlace)) (row:List IV),
   fs.mapM (fun f=>DataW.trod enc P w base sp held fuel f.type ((cs.drop f.offset).take (P.cellsOf f.type)))=some xs →
   JC P (uo P tok n) off fs (xs.map (·.1))=some row→∀G,c9 G row ((cs.drop off).take row.length)
 |[],off,xs,row,h,hr,G=>by
  simp at h;subst h;simp only[List.map_nil,JC,Option.some.injEq] at hr;subst hr;exact c9.nil
 |f::fs,off,xs,row,h,hr,G=>by
  obtain⟨x,ys,h1,h2,rfl⟩:=mf h;simp only[List.map_cons,JC] at hr;split at hr
  ·rename_i a b e1 e2 e3;split at hr
   ·rename_i hlen
    cases hr
    have hoff:=Nat.eq_of_beq_eq_true e1;have hl:=Nat.eq_of_beq_eq_true hlen;obtain⟨d,ps⟩:=x;have p1:=ih _ _ _ _ _ h1 e2 G;have p2:=wB ih fs _ ys b h2 e3 G;rw[List.length_append,qc,hl];rw[hoff] at p1;exact p1.append p2
   ·cases hr
  ·cases hr
theorem wy {tok:H→Option FuncId}{n fuel:Nat}{e:TypeId}{cs:List Value}(ih:∀t cs d ps row,DataW.trod enc P w base sp held fuel t cs=some (d,ps)→uo P tok n t d=some row→∀G,c9 G row cs) :
  ∀(m k:Nat) (xs:List (DataW H×List MemPlace)) (row:List IV),
   (List.range' k m).mapM (fun i=>DataW.trod enc P w base sp held fuel e ((cs.drop (i*P.cellsOf e)).take (P.cellsOf e)))=some xs →
   JA (uo P tok n e) (P.cellsOf e) m (xs.map (·.1))=some row→∀G,c9 G row ((cs.drop (k*P.cellsOf e)).take row.length)
 |0,k,xs,row,h,hr,G=>by
  simp at h;subst h;simp only[List.map_nil,JA,Option.some.injEq] at hr;subst hr;exact c9.nil
 |m+1,k,xs,row,h,hr,G=>by
  rw[List.range'_succ] at h;obtain⟨x,ys,h1,h2,rfl⟩:=mf h;simp only[List.map_cons,JA] at hr;split at hr
  ·rename_i a b e2 e3;split at hr
   ·rename_i hlen
    cases hr
    have hl:=Nat.eq_of_beq_eq_true hlen;obtain⟨d,ps⟩:=x;have p1:=ih _ _ _ _ _ h1 e2 G;have p2:=wy ih m (k+1) ys b h2 e3 G;rw[List.length_append,qc,hl];rw[Nat.succ_mul] at p2;exact p1.append p2
   ·cases hr
  ·cases hr
theorem wz {tok:H→Option FuncId}(htok:∀t v f,tok (enc (t,v))=some f→v=.func (.func f) #[] #[]):∀(fuel n:Nat) (t:TypeId) (cs:List Value) (d:DataW H) (ps:List MemPlace) (row:List IV),
  DataW.trod enc P w base sp held fuel t cs=some (d,ps)→uo P tok n t d=some row→∀G,c9 G row cs
 |0,_,_,_,_,_,_,h,_=>by simp[DataW.trod] at h
 |fuel+1,0,_,_,_,_,_,_,hr=>by simp[uo] at hr
 |fuel+1,n+1,t,cs,d,ps,row,h,hr=>by
  intro G;have ih:=fun t cs d ps row h hr=>wz htok fuel n t cs d ps row h hr;simp only[uo] at hr;split at hr
  ·rename_i ht;split at hr
   ·rename_i b
    cases hr
    simp only[DataW.trod,ht] at h;split at h<;>simp_all
    rename_i q;obtain⟨rfl,_⟩:=h;exact c9.cons (.bool _) c9.nil
   ·cases hr
  ·rename_i k ht;split at hr
   ·rename_i k' i
    cases hr
    simp only[DataW.trod,ht] at h;split at h<;>simp_all
    obtain⟨⟨rfl,_⟩,⟨rfl,rfl⟩,_⟩:=h;exact c9.cons (.int _ _) c9.nil
   ·cases hr
  ·rename_i ht;split at hr
   ·rename_i s
    cases hr
    simp only[DataW.trod,ht] at h;split at h<;>simp_all
    rename_i s';obtain⟨_,rfl,_⟩:=h;obtain⟨⟨l⟩⟩:=s';exact c9.cons (.str _) c9.nil
   ·cases hr
  ·rename_i fs ht;split at hr
   ·rename_i ds;simp only[DataW.trod,ht] at h;split at h
    ·rename_i hlen;simp only[Option.map_eq_some_iff,Prod.mk.injEq,DataW.agg.injEq] at h;obtain⟨xs,h1,rfl,_⟩:=h;obtain⟨hr,hl⟩:=Gj hr;have:=wB ih fs.toList 0 xs row h1 hr G;rwa [List.drop_zero,hl,←hlen,List.take_length] at this
    ·cases h
   ·cases hr
  ·rename_i m e ht;split at hr
   ·rename_i ds;simp only[DataW.trod,ht] at h;split at h
    ·rename_i hlen;simp only[Option.map_eq_some_iff,Prod.mk.injEq,DataW.agg.injEq] at h;obtain⟨xs,h1,rfl,_⟩:=h;rw[List.range_eq_range'] at h1;obtain⟨hr,hl⟩:=Gj hr;have:=wy ih m 0 xs row h1 hr G;rwa [Nat.zero_mul,List.drop_zero,hl,←hlen,List.take_length] at this
    ·cases h
   ·cases hr
  ·rename_i ht;split at hr
   ·rename_i q;split at hr
    ·rename_i f hf
     cases hr
     simp only[DataW.trod,ht] at h;split at h<;>simp_all
     obtain⟨_,rfl,_⟩:=h;rw[htok _ _ _ hf];exact c9.cons (.func f [] [] [] [] rfl rfl (fun i h=>absurd h (by simp)) (fun i h=>absurd h (by simp))) c9.nil
    ·cases hr
   ·cases hr
  ·cases hr
end
end Go.Idl
namespace Go.Idl
open Go.RowKit
variable {X:Ctx}{w w':World}
def Ib (w:World):Gh:=⟨fun b o=>w.cell? ⟨b,o,none⟩,fun _=>none,fun _=>none,fun _ _=>none,fun _=>false,w.heap.size⟩
def DY (X:Ctx) (w:World):Prop:=∀g row,X.rows g=some row→∃cs:List Value,(∀i,w.cell? ⟨g,i,none⟩=cs[i]?)∧∀G,c9 G row cs
theorem Ro (h:DY X w):WF X (Ib w) w where
 dB _ _ _ e:=e
 inj _ _ _ e:=by cases e
 ja _ _ _ e:=by cases e
 fB _ _ _ e:=by cases e
 eY b h:=by rcases h with ⟨_,e⟩ | ⟨_,e⟩<;>cases e
 ew b o h:=by rcases h with ⟨_,e⟩ | ⟨_,e⟩<;>cases e
 eU b o h:=by rcases h with ⟨_,e⟩ | ⟨_,e⟩<;>cases e
 fL _ _ _ e:=by cases e
 dR _ _ _ e:=by cases e
 iD g row e:=by
  obtain⟨cs,h1,h2⟩:=h g row e;have hl:=(h2 (Ib w)).1
  have:=VR.pI (G:=Ib w) row 0 g 0 (fun i=>cs.getD i undef) (fun i hi=>by
    have hi':i<cs.length:=by omega
    show w.cell? ⟨g,0+i,none⟩=_;rw[Nat.zero_add,h1 i,List.getD_eq_getElem?_getD,List.getElem?_eq_getElem hi'];rfl) (fun i hi=>by
    have hi':i<cs.length:=by omega
    have:=(h2 (Ib w).pl).2 i hi hi';rw[List.getD_eq_getElem?_getD,List.getElem?_eq_getElem hi'];exact this)
  exact this
 gj:=Nat.le_refl _
theorem Rn:MR X (Ib w) ⟨[],0⟩ w where
 bx id h:=absurd (by simp[IM.get]) h
 own id cs cp off sz e:=by simp[IM.get] at e
 kY _ _ e:=by cases e
 cd _ e:=by cases e
theorem Hv {G':Gh}(s:Step (Ib w) w G' w'):Below w.heap.size w w':=by
 have hop:∀b,¬(Ib w).p8 b:=fun b h=>by rcases h with ⟨_,e,_⟩ | ⟨_,e⟩<;>cases e
 refine⟨s.os,s.tape,s.output,s.size,fun k hk=>?_⟩;have he:w.heap[k]?=some w.heap[k]:=Array.getElem?_eq_getElem hk;rw[he]
 cases ho:w.heap[k] with
 |cells c t f =>
  rw[ho] at he;obtain⟨c',f',h1,h2,h3,h4⟩:=s.cells k c t f he (hop k);have hc:c'=c:=Array.ext_getElem? fun i=>h3 i rfl;have hf:f'=f:=by
   rcases h4 with h4 | ⟨h4,_⟩
   ·exact h4
   ·exact absurd h4 (by show ¬w.heap.size≤k;omega)
  rw[h1,hc,hf]
 |_ =>rw[ho] at he;exact s.other k _ he (hop k) (fun c t f e=>by cases e)
theorem HD {call:bW}(hc:kV X call) {f:FuncId}{fn:Func}(hf:X.P.funcs[f]?=some fn) (hb:fn.body.isNone=false) (hn:(fn.name == "runtime.NumGoroutine")=false) {args:List IV}{rs:List Value}{b:Bool}{m':IM}
  (hr:call (.f f) args ⟨[],0⟩=some (.bool b,m')) (hw:DY X w) (ha:c9 (Ib w) args rs):Calls X.P f ⟨rs⟩ w fun e w'=>e=.returned (.bool b)∧Below w.heap.size w w':=by
 have h:=(hc _ _ _ _ _ hr (Ib w) w rs Rn (Ro hw) (fun _=>rfl) ha).1;rcases h with ⟨-,h⟩ | ⟨r,w',h,-⟩
 ·refine (callsIn_wide.1 h).mono fun e w' ⟨r,h1,G',_,_,h4,h5⟩=>?_
  cases h4
  exact⟨h1,Hv h5⟩
 ·exfalso;have hpr:(program).run X.P w=.ok X.P w:=rfl;have h1:fn.name ≠ "runtime.NumGoroutine" := by simpa using hn
  cases hbb:fn.body with
  |none=>rw[hbb] at hb;cases hb
  |some c=>simp[callFunc,hpr,hf,h1,hbb] at h
theorem xJ {P:Program}{H:Type}{enc:TypeId×Value→H}{tok:H→Option FuncId}(htok:∀t v f,tok (enc (t,v))=some f→v=.func (.func f) #[] #[]) {name:String}{g:Nat}{t:TypeId}{cs:Array Value}{base fuel:Nat}{sp:Nat→Bool}{held:Bool}{d:DataW H}{ps:List MemPlace}{row:List IV}{n:Nat}
  (hg:P.globalNamed name=some g) (hv:w.var? P name=some cs) (h:DataW.trod enc P w base sp held fuel t cs.toList=some (d,ps)) (hr:uo P tok n t d=some row) :
  ∃cs:List Value,(∀i,w.cell? ⟨g,i,none⟩=cs[i]?)∧∀G,c9 G row cs :=
 ⟨cs.toList,fun i=>by rw[World.var?_cell hg hv i];simp,fun G=>wz htok _ _ _ _ _ _ _ h hr G⟩
theorem nM {P:Program}:∀{l:List (String×DataW Unit)}{ps:List MemPlace},DataW.LaidVars P w l ps→∀{n:String}{d:DataW Unit},(n,d)∈l →
  ∃g t cs fuel p,P.globalNamed n=some g∧(P.globals[g]?).map (·.type)=some t∧w.var? P n=some cs∧DataW.trod (fun _=>()) P w 0 (fun _=>true) false fuel t cs.toList=some (d,p)
 |[],_,_,_,_,h=>by cases h
 |(m,e)::r,ps,h,n,d,hm=>by
  obtain⟨g,t,cs,fuel,p,q,h1,h2,h3,h4,h5,_⟩:=h;rcases List.mem_cons.1 hm with q | q
  ·cases q;exact⟨g,t,cs,fuel,p,h1,h2,h3,h4⟩
  ·exact nM h5 q
theorem sV {P:Program}{l:List (String×DataW Unit)}(h:laidMetH P l w) {n:String}{d:DataW Unit}(hx:(n,d)∈l) (hn:d.handleName?.isNone=true) :
  ∃g t cs fuel p,P.globalNamed n=some g∧(P.globals[g]?).map (·.type)=some t∧w.var? P n=some cs∧DataW.trod (fun _=>()) P w 0 (fun _=>true) false fuel t cs.toList=some (d,p):=by
 unfold laidMetH at h;split at h
 ·obtain⟨ps,h,_⟩:=h;exact nM h hx
 ·obtain⟨⟨ps,h,_⟩,_⟩:=h;exact nM h (List.mem_filter.2 ⟨hx,hn⟩)
theorem th {P:Program}{l:List (String×DataW Unit)}(h:laidMetH P l w) {name:String}{d:DataW Unit}(hx:(name,d)∈l) (hn:d.handleName?.isNone=true) {g:Nat}(hg:P.globalNamed name=some g) {t:TypeId}(ht:(P.globals[g]?).map (·.type)=some t)
  {row:List IV}{n:Nat}(hr:uo P (fun _=>none) n t d=some row):∃cs:List Value,(∀i,w.cell? ⟨g,i,none⟩=cs[i]?)∧∀G,c9 G row cs:=by
 obtain⟨g',t',cs,fuel,p,h1,h2,h3,h4⟩:=sV h hx hn;obtain rfl:=Option.some.inj (hg.symm.trans h1);obtain rfl:=Option.some.inj (ht.symm.trans h2);exact xJ (fun _ _ _ e=>by cases e) hg h3 h4 hr
theorem HZ {P:Program}{l:List (String×DataW Unit)}(h:laidMetH P l w) {name:String}{d:DataW Unit}(hx:(name,DataW.iface "func table" d)∈l) {g:Nat}(hg:P.globalNamed name=some g) {t:TypeId}(ht:(P.globals[g]?).map (·.type)=some t)
  {tok:List UInt8→Option FuncId}(htok:∀t v f,tok (funcToken P (t,v))=some f→v=.func (.func f) #[] #[]) {row:List IV}{n:Nat}(hr:uo P tok n t d.funcsOut=some row):∃cs:List Value,(∀i,w.cell? ⟨g,i,none⟩=cs[i]?)∧∀G,c9 G row cs:=by
 obtain⟨g',t',cs,fuel,p,h1,h2,h3,h4⟩:=laidMetH.funcs h hx;obtain rfl:=Option.some.inj (hg.symm.trans h1);obtain rfl:=Option.some.inj (ht.symm.trans h2);exact xJ htok hg h3 h4 hr
def GD:List (List UInt8×FuncId)→List UInt8→Option FuncId
 |[],_=>none
 |(n,f)::r,k=>match decide (n=k) with
  |true=>some f
  |false=>GD r k
theorem zy:∀{l:List (List UInt8×FuncId)}{k:List UInt8}{f:FuncId},GD l k=some f→(k,f)∈l
 |(n,f')::r,k,f,h=>by
  simp only[GD] at h;split at h
  ·rename_i e;cases h;simp only[decide_eq_true_eq] at e;subst e;exact List.mem_cons_self
  ·exact List.mem_cons_of_mem _ (zy h)
def GC (P:Program):List (List UInt8×FuncId)→Bool
 |[]=>true
 |(n,f)::r=>!n.isEmpty&&decide (((List.range P.funcs.size).filter fun f=>(P.funcs[f]?).any (·.name.toUTF8.data.toList==n))=[f])&&GC P r
theorem Dw {P:Program}:∀{l:List (List UInt8×FuncId)},GC P l=true→∀t v f,GD l (funcToken P (t,v))=some f→v=.func (.func f) #[] #[]:=by
 intro l hl t v f h;have hm:=zy h;have hall:∀(l:List (List UInt8×FuncId)),GC P l=true→∀n f,(n,f)∈l→n≠[]∧((List.range P.funcs.size).filter fun f=>(P.funcs[f]?).any (·.name.toUTF8.data.toList==n))=[f]:=by
  intro l
  induction l with
  |nil=>intro _ n f h;cases h
  |cons a l ih =>
   intro h n f hm;obtain⟨n',f'⟩:=a;simp only[GC,Bool.and_eq_true,Bool.not_eq_true',decide_eq_true_eq] at h;obtain⟨⟨h1,h2⟩,h3⟩:=h;rcases List.mem_cons.1 hm with q | q
   ·cases q;exact⟨fun e=>by rw[e] at h1;simp at h1,h2⟩
   ·exact ih h3 n f q
 obtain⟨hne,hone⟩:=hall l hl _ _ hm
 cases hk:funcToken P (t,v) with
 |nil=>exact absurd hk hne
 |cons b r =>
  rw[hk] at hone;obtain⟨f',fn,rfl,hf,_,hb⟩:=funcToken_tells hk;have hm:f'∈(List.range P.funcs.size).filter fun f=>(P.funcs[f]?).any (·.name.toUTF8.data.toList==b::r) :=
   List.mem_filter.2 ⟨List.mem_range.2 (Array.getElem?_eq_some_iff.1 hf).1,by rw[hf];simpa using hb⟩
  rw[hone] at hm;rw[List.mem_singleton.1 hm]
end Go.Idl
