/- This text proves that a reckoned check of the code suffices, gives the equations of runs without a bound, and proves what the taken library functions return; it has no conditions. -/
import Derived.Test.YtihkfdkoncekmaaGreatDoorIdd
import Derived.Test.YtihkfdkoncekmaaGreatDoorIda
import Derived.Lib.Bytealg
import Derived.Lib.Repeat
import Derived.Lib.IndexAny
import Derived.Lib.SlTrimSet
import Derived.Below
set_option linter.unusedSimpArgs false
set_option linter.unusedVariables false
namespace Go.Idl
mutual
def Rc:Nat→IV→Value→Bool
 |0,_,_=>false
 |n+1,x,v=>match x,v with
  |.bool b,.bool c=>b==c
  |.int k i,.int k' i'=>decide (k=k')&&decide (i=i')
  |.float k b,.float k' b'=>decide (k=k')&&Nat.beq b b'
  |.um k a b,.complex k' a' b'=>decide (k=k')&&Nat.beq a a'&&Nat.beq b b'
  |.str s,.string t=>decide (s=t.data.toList)
  |.gE,.pointer none=>true
  |.aa,.slice none 0 0=>true
  |.gX,.map none=>true
  |.nilFunc,.nilFunc=>true
  |.nilIface,.nilIface=>true
  |.func f [] [],.func (.func g) a b=>Nat.beq f g&&a.toList.isEmpty&&b.toList.isEmpty
  |.agg cs,.agg rc=>D8 n cs rc.toList
  |.db cs,.tuple rc=>D8 n cs rc.toList
  |.iface t x,.iface u v=>Nat.beq t u&&Rc n x v
  |_,_=>false
def D8:Nat→List IV→List Value→Bool
 |0,_,_=>false
 |n+1,cs,rc=>match cs,rc with
  |[],[]=>true
  |x::xs,v::vs=>Rc n x v&&D8 n xs vs
  |_,_=>false
end
theorem gL {i j:Nat}(h:Nat.beq i j=true):i=j:=Nat.eq_of_beq_eq_true h
mutual
theorem pq:∀(n:Nat) (x:IV) (v:Value),Rc n x v=true→∀G,VR G x v
 |0,_,_,h=>by simp[Rc] at h
 |n+1,x,v,h=>by
  intro G;simp only[Rc] at h;split at h
  ·simp only[beq_iff_eq] at h;subst h;exact .bool _
  ·simp only[Bool.and_eq_true,decide_eq_true_eq] at h;obtain⟨rfl,rfl⟩:=h;exact .int _ _
  ·simp only[Bool.and_eq_true,decide_eq_true_eq] at h;obtain⟨rfl,h⟩:=h;rw[gL h];exact .float _ _
  ·simp only[Bool.and_eq_true,decide_eq_true_eq] at h;obtain⟨⟨rfl,h1⟩,h2⟩:=h;rw[gL h1,gL h2];exact .um _ _ _
  ·rename_i s t;simp only[decide_eq_true_eq] at h;obtain⟨⟨l⟩⟩:=t;simp only at h;subst h;exact .str _
  ·exact .gE
  ·exact .aa
  ·exact .gX
  ·exact .nilFunc
  ·exact .nilIface
  ·rename_i f g a b;simp only[Bool.and_eq_true,List.isEmpty_iff] at h;obtain⟨⟨h1,h2⟩,h3⟩:=h;rw[gL h1];obtain⟨a⟩:=a;obtain⟨b⟩:=b;simp only at h2 h3;subst h2;subst h3;exact .func _ [] [] [] [] rfl rfl (fun i h=>absurd h (by simp)) (fun i h=>absurd h (by simp))
  ·rename_i cs rc;obtain⟨rc⟩:=rc;exact VR.B1 (nE n cs rc h G)
  ·rename_i cs rc;obtain⟨rc⟩:=rc;exact VR.Dz (nE n cs rc h G)
  ·simp only[Bool.and_eq_true] at h;rw[gL h.1];exact .iface _ _ _ (pq n _ _ h.2 G)
  ·cases h
theorem nE:∀(n:Nat) (xs:List IV) (vs:List Value),D8 n xs vs=true→∀G,c9 G xs vs
 |0,_,_,h=>by simp[D8] at h
 |n+1,xs,vs,h=>by
  intro G;simp only[D8] at h;split at h
  ·exact c9.nil
  ·simp only[Bool.and_eq_true] at h;exact c9.cons (pq n _ _ h.1 G) (nE n _ _ h.2 G)
  ·cases h
end
def WG:IV→IV→Bool
 |.bool b,.bool c=>b==c
 |.int k i,.int k' i'=>decide (k=k')&&decide (i=i')
 |.str s,.str t=>decide (s=t)
 |.gE,.gE=>true
 |.aa,.aa=>true
 |.func f [] [],.func g [] []=>Nat.beq f g
 |.nilFunc,.nilFunc=>true
 |_,_=>false
def Hq:List IV→List IV→Bool
 |[],[]=>true
 |x::xs,y::ys=>WG x y&&Hq xs ys
 |_,_=>false
theorem Hp {x y:IV}(h:WG x y=true):x=y:=by
 unfold WG at h;split at h<;>first | rfl | (cases h;done) | skip
 ·simp only[beq_iff_eq] at h;rw[h]
 ·simp only[Bool.and_eq_true,decide_eq_true_eq] at h;obtain⟨rfl,rfl⟩:=h;rfl
 ·simp only[decide_eq_true_eq] at h;rw[h]
 ·rw[gL h]
theorem wG:∀{xs ys:List IV},Hq xs ys=true→xs=ys
 |[],[],_=>rfl
 |x::xs,y::ys,h=>by
  simp only[Hq,Bool.and_eq_true] at h;rw[Hp h.1,wG h.2]
 |[],_::_,h=>by simp[Hq] at h
 |_::_,[],h=>by simp[Hq] at h
section
variable (P:Program) (rows:Nat→Option (List IV))
def gq:Operand→Arg→Bool
 |.tmp i,.t j=>Nat.beq i j
 |.const v,.c x=>Rc 20000 x v
 |.global g,.c (.pI row 0)=>match rows g with
  |some r=>Hq r row
  |none=>false
 |.func f,.c (.func g [] [])=>Nat.beq f g
 |_,_=>false
def nD:List Operand→List Arg→Bool
 |[],[]=>true
 |x::xs,a::as=>gq rows x a&&nD xs as
 |_,_=>false
variable {rows}
theorem bt {x:Operand}{a:Arg}(h:gq rows x a=true):fg rows x a:=by
 unfold gq at h;split at h
 ·rw[gL h];exact .tmp _
 ·exact .const _ _ (pq _ _ _ h)
 ·split at h
  ·rename_i r hr;rw[←wG h];exact .iD _ _ hr
  ·cases h
 ·rw[gL h];exact .func _
 ·cases h
theorem jT:∀{xs:List Operand}{as:List Arg},nD rows xs as=true→od rows xs as
 |[],[],_=>.nil
 |x::xs,a::as,h=>by
  simp only[nD,Bool.and_eq_true] at h;exact .cons (bt h.1) (jT h.2)
 |[],_::_,h=>by simp[nD] at h
 |_::_,[],h=>by simp[nD] at h
end
def KJ:TypeDesc→Bool
 |.struct _ | .array _ _=>true
 |_=>false
def ob (P:Program) (t:TypeId) (n:Nat) (agg:Bool):Bool :=
 match P.underlying t,P.info? t with
 |some d,some i=>Nat.beq i.size n&&(agg==KJ d)&&(agg||Nat.beq n 1)
 |_,_=>false
theorem fU {P:Program}{t:TypeId}{n:Nat}{agg:Bool}(h:ob P t n agg=true):∃d bytes,kW P t d n bytes agg∧∃i,P.info? t=some i∧i.bytes=bytes:=by
 unfold ob at h;split at h
 ·rename_i d i e1 e2;simp only[Bool.and_eq_true,beq_iff_eq,Bool.or_eq_true] at h;obtain⟨⟨h1,h2⟩,h3⟩:=h;refine⟨d,i.bytes,⟨e1,⟨i,e2,gL h1,rfl⟩,by rw[h2];cases d<;>rfl,fun ha=>?_⟩,i,e2,rfl⟩;rcases h3 with q | q
  ·rw[ha] at q;cases q
  ·exact gL q
 ·cases h
def pU (P:Program) (t:TypeId):Nat:=match P.info? t with | some i=>i.size | none=>0
def bytesOf (P:Program) (t:TypeId):Nat:=match P.info? t with | some i=>i.bytes | none=>0
def tC (P:Program) (t:TypeId):Bool:=match P.underlying t with | some d=>KJ d | none=>false
def yj (P:Program) (t:TypeId):Bool:=ob P t (pU P t) (tC P t)
def mN (P:Program) (t:TypeId) (zero:List IV):Bool :=
 match P.info? t with
 |some i=>match i.zero with
  |some v=>Nat.beq i.size zero.length&&D8 20000 zero v.cells.toList
  |none=>false
 |none=>false
theorem gG {P:Program}{t:TypeId}{zero:List IV}(h:mN P t zero=true):jD P t zero:=by
 unfold mN at h;split at h
 ·rename_i i ei;split at h
  ·rename_i v ev;simp only[Bool.and_eq_true] at h;have hv:=nE _ _ _ h.2;exact⟨i,v,ei,ev,(hv ⟨fun _ _=>none,fun _=>none,fun _=>none,fun _ _=>none,fun _=>false,0⟩).1,gL h.1,hv⟩
  ·cases h
 ·cases h
def Ax:nW→TypeDesc→Bool
 |.bool,.bool=>true
 |.int,.int _=>true
 |.str,.string=>true
 |.float,.float _=>true
 |.ptr,.pointer _=>true
 |.slice,.slice _=>true
 |.func,.func ..=>true
 |.map,.map ..=>true
 |_,_=>false
theorem lB {e:nW}{d:TypeDesc}(h:Ax e d=true):kq e d:=by
 cases e<;>cases d<;>first | trivial | cases h
def Ju:nW→TypeDesc→Bool
 |.bool,.bool=>true
 |.int,.int _=>true
 |.str,.string=>true
 |_,_=>false
theorem tH {e:nW}{d:TypeDesc}(h:Ju e d=true):lC e d:=by
 cases e<;>cases d<;>first | trivial | cases h
def mE:List (Nat×Nat)→List (Nat×Nat)→Bool
 |[],[]=>true
 |(a,b)::r,(c,d)::s=>Nat.beq a c&&Nat.beq b d&&mE r s
 |_,_=>false
theorem kB:∀{r s:List (Nat×Nat)},mE r s=true→r=s
 |[],[],_=>rfl
 |(a,b)::r,(c,d)::s,h=>by
  simp only[mE,Bool.and_eq_true] at h;rw[gL h.1.1,gL h.1.2,kB h.2]
 |[],_::_,h=>by simp[mE] at h
 |_::_,[],h=>by simp[mE] at h
def ld (P:Program) (t:TypeId):Bool:=match P.underlying t with | some .string=>true | _=>false
def wZ (P:Program) (t:TypeId):Option IntKind:=match P.underlying t with | some (.int k)=>some k | _=>none
def mD (P:Program) (t:TypeId):Option TypeId:=match P.underlying t with | some (.slice e)=>some e | _=>none
def rI (P:Program) (t:TypeId):Bool:=match P.underlying t with | some (.int .u8)=>true | _=>false
def Am (P:Program) (t:TypeId):Option (Nat×TypeId):=match P.underlying t with | some (.array n e)=>some (n,e) | _=>none
def pO (P:Program) (t:TypeId):Option (Array Field):=match P.underlying t with | some (.struct f)=>some f | _=>none
def Sg (P:Program) (t:TypeId):Option TypeId:=match P.underlying t with | some (.pointer e)=>some e | _=>none
def Lr (P:Program) (t:TypeId):Option (TypeId×TypeId):=match P.underlying t with | some (.map k e)=>some (k,e) | _=>none
theorem jm {P:Program}{t:TypeId}(h:ld P t=true):P.underlying t=some .string:=by unfold ld at h;split at h<;>first | assumption | cases h
theorem w4 {P:Program}{t:TypeId}{k:IntKind}(h:wZ P t=some k):P.underlying t=some (.int k):=by unfold wZ at h;split at h<;>first | (cases h;assumption) | cases h
theorem jt {P:Program}{t e:TypeId}(h:mD P t=some e):P.underlying t=some (.slice e):=by unfold mD at h;split at h<;>first | (cases h;assumption) | cases h
theorem sR {P:Program}{t:TypeId}(h:rI P t=true):P.underlying t=some (.int .u8):=by unfold rI at h;split at h<;>first | assumption | cases h
theorem qj {P:Program}{t:TypeId}{n:Nat}{e:TypeId}(h:Am P t=some (n,e)):P.underlying t=some (.array n e):=by unfold Am at h;split at h<;>first | (cases h;assumption) | cases h
theorem pP {P:Program}{t:TypeId}{f:Array Field}(h:pO P t=some f):P.underlying t=some (.struct f):=by unfold pO at h;split at h<;>first | (cases h;assumption) | cases h
theorem Si {P:Program}{t e:TypeId}(h:Sg P t=some e):P.underlying t=some (.pointer e):=by unfold Sg at h;split at h<;>first | (cases h;assumption) | cases h
theorem ED {P:Program}{t k e:TypeId}(h:Lr P t=some (k,e)):P.underlying t=some (.map k e):=by unfold Lr at h;split at h<;>first | (cases h;assumption) | cases h
def rR (P:Program):List Field→Bool
 |[]=>true
 |f::r=>yj P f.type&&rR P r
theorem rS {P:Program}:∀{l:List Field},rR P l=true→∀(j:Nat) f,l[j]?=some f→yj P f.type=true
 |[],_,j,f,h=>by simp at h
 |g::l,h,j,f,hf=>by
  simp only[rR,Bool.and_eq_true] at h
  cases j with
  |zero=>simp only[List.getElem?_cons_zero,Option.some.injEq] at hf;subst hf;exact h.1
  |succ j=>exact rS h.2 j f (by simpa using hf)
def xE (P:Program) (fields:List Field):List (Nat×Operand)→Option (List (Nat×Nat))
 |[]=>some []
 |p::r=>match fields[p.1]?,xE P fields r with
  |some f,some l=>some ((f.offset,pU P f.type)::l)
  |_,_=>none
theorem rX {P:Program}{fields:Array Field}:∀{ps:List (Nat×Operand)}{l:List (Nat×Nat)},xE P fields.toList ps=some l →
  l=ps.map (fun p=>(((fields[p.1]?).map (·.offset)).getD 0,(((fields[p.1]?).map fun f=>pU P f.type).getD 0)))∧∀p∈ps,p.1<fields.size
 |[],l,h=>by simp only[xE,Option.some.injEq] at h;subst h;simp
 |p::r,l,h=>by
  simp only[xE] at h;split at h
  ·rename_i f l' e1 e2;simp only[Option.some.injEq] at h;subst h;obtain⟨h1,h2⟩:=rX e2;have e1':fields[p.1]?=some f:=by simpa using e1
   refine⟨by rw[List.map_cons,←h1,e1'];rfl,fun q hq=>?_⟩;rcases List.mem_cons.1 hq with rfl | hq
   ·exact (Array.getElem?_eq_some_iff.1 e1').1
   ·exact h2 q hq
  ·cases h
end Go.Idl
namespace Go.Idl
theorem xS {P:Program}{t:TypeId}{d:TypeDesc}{n:Nat}{agg:Bool}(hu:P.underlying t=some d) (h:ob P t n agg=true):∃bytes,kW P t d n bytes agg∧bytesOf P t=bytes:=by
 obtain⟨d',bytes,ht,i,h1,h2⟩:=fU h;have:=ht.Ie;rw[hu] at this
 cases this
 exact⟨bytes,ht,by simp[bytesOf,h1,h2]⟩
theorem jz {P:Program}{t:TypeId}(h:yj P t=true):∃d b,kW P t d (pU P t) b (tC P t):=by obtain⟨d,b,ht,-⟩:=fU h;exact⟨d,b,ht⟩
def when {α:Type}(b:Bool) (x:α):Option α:=match b with | true=>some x | false=>none
theorem fC {α:Type}{b:Bool}{x y:α}(h:when b x=some y):b=true∧x=y:=by unfold when at h;split at h<;>first | (cases h;exact⟨rfl,rfl⟩) | cases h
def A9 {α:Type}(o:Option α) (b:Bool):Bool:=o.isSome==b
def pX:Op→Option (Builtin×List Operand×List TypeId)
 |.call ⟨.builtin b,xs,ts⟩=>some (b,xs.toList,ts.toList)
 |_=>none
theorem mA {op:Op}{b:Builtin}{xs:List Operand}{ts:List TypeId}(h:pX op=some (b,xs,ts)):op=.call ⟨.builtin b,⟨xs⟩,⟨ts⟩⟩:=by
 unfold pX at h;split at h
 ·rename_i b' xs' ts';obtain⟨xs'⟩:=xs';obtain⟨ts'⟩:=ts'
  cases h;rfl
 ·cases h
def sH (P:Program):List Field→List (Nat×nW)→Bool
 |[],[]=>true
 |f::fs,(o,d)::plan=>!(f.name == "_")&&Nat.beq o f.offset&&(match P.underlying f.type with | some d'=>Ax d d' | none=>false)&&ob P f.type (pU P f.type) false&&sH P fs plan
 |_,_=>false
theorem rC {P:Program}:∀{fs:List Field}{plan:List (Nat×nW)},sH P fs plan=true→yO P fs plan
 |[],[],_=>.nil
 |f::fs,(o,d)::plan,h=>by
  simp only[sH,Bool.and_eq_true,Bool.not_eq_true'] at h;obtain⟨⟨⟨⟨h1,h2⟩,h3⟩,h4⟩,h5⟩:=h;rw[gL h2];split at h3
  ·rename_i d' e;obtain⟨b,q,-⟩:=xS e h4;exact .cons (by simpa using h1) q (lB h3) (rC h5)
  ·cases h3
 |[],_::_,h=>by simp[sH] at h
 |_::_,[],h=>by simp[sH] at h
def y6 (ed:nW):Nat→Nat→List (Nat×nW)→Bool
 |_,0,[]=>true
 |i,n+1,(j,d)::r=>Nat.beq i j&&decide (ed=d)&&y6 ed (i+1) n r
 |_,_,_=>false
theorem tI {ed:nW}:∀{n i:Nat}{plan:List (Nat×nW)},y6 ed i n plan=true→plan=(List.range' i n).map fun i=>(i,ed)
 |0,i,[],_=>rfl
 |n+1,i,(j,d)::r,h=>by
  simp only[y6,Bool.and_eq_true,decide_eq_true_eq] at h;obtain⟨⟨h1,h2⟩,h3⟩:=h;rw[List.range'_succ,List.map_cons,←tI h3,←h2,gL h1]
 |0,i,_::_,h=>by simp[y6] at h
 |_+1,i,[],h=>by simp[y6] at h
def WC (P:Program) (op:Op):dW→Option (List Operand)
 |.pick=>match op with | .pick c a b=>some [c,a,b] | _=>none
 |.build zero parts=>match op with
  |.build t ps=>match pO P t with
   |some fields=>match xE P fields.toList ps.toList with
    |some l=>when (mE parts l&&mN P t zero&&rR P fields.toList&&ob P t (pU P t) true) (ps.toList.map (·.2))
    |none=>none
   |none=>match Am P t with
    |some (_,e)=>when (mE parts (ps.toList.map fun p=>(p.1*pU P e,pU P e))&&mN P t zero&&yj P e&&ob P t (pU P t) true) (ps.toList.map (·.2))
    |none=>none
  |_=>none
 |.nilCheck=>match op with | .nilCheck x=>some [x] | _=>none
 |.bin o=>match op with | .binOp o' _ x y _=>when (decide (o'=o)) [x,y] | _=>none
 |.eq neg d=>match op with
  |.binOp o t x y _=>match P.underlying t with
   |some d'=>when ((if neg then decide (o=.neq) else decide (o=.eql))&&yj P t&&Ax d d') [x,y]
   |none=>none
  |_=>none
 |.lu neg plan=>match op with
  |.binOp o t x y _=>match pO P t with
   |some fields=>when ((if neg then decide (o=.neq) else decide (o=.eql)) && !P.stoodInHeld t && !P.eqGuardType P.depth t&&sH P fields.toList plan) [x,y]
   |none=>match Am P t,plan with
    |some (len,e),(_,ed)::_=>match P.underlying e with
     |some d=>when ((if neg then decide (o=.neq) else decide (o=.eql)) && !P.eqGuardType P.depth t&&Ax ed d&&ob P e 1 false&&y6 ed 0 len plan) [x,y]
     |none=>none
    |_,_=>none
  |_=>none
 |.un o=>match op with | .unOp o' _ x=>when (decide (o'=o)) [x] | _=>none
 |.dg k=>match op with | .convert s d x=>when ((wZ P s).isSome&&decide (wZ P d=some k)) [x] | _=>none
 |.pr=>match op with | .convert s d x=>when (ld P s&&ld P d) [x] | _=>none
 |.oC=>match op with | .convert s d x=>when ((wZ P s).isSome&&ld P d) [x] | _=>none
 |.gT=>match op with
  |.convert s d x=>match mD P s with
   |some e=>when (rI P e&&ld P d) [x]
   |none=>none
  |_=>none
 |.pE t=>match op with
  |.makeInterface t' x=>match P.underlying t' with
   |some d=>when (Nat.beq t t'&&(match d with | .interface _=>false | _=>true)) [x]
   |none=>none
  |_=>none
 |.mQ f n=>match op with
  |.makeFunc (.func f') first cap=>when (Nat.beq f f'&&Nat.beq n first.size) (first.toList++cap.toList)
  |_=>none
 |.fieldAddr off=>match op with
  |.fieldAddr t x i=>match pO P t with
   |some fields=>match fields[i]? with
    |some fd=>when (Nat.beq off fd.offset&&yj P fd.type && !Nat.beq (pU P fd.type) 0) [x]
    |none=>none
   |none=>none
  |_=>none
 |.field agg off n=>match op with
  |.field t x i=>match pO P t with
   |some fields=>match fields[i]? with
    |some fd=>when (Nat.beq off fd.offset&&ob P fd.type n agg) [x]
    |none=>none
   |none=>none
  |_=>none
 |.jW len sz=>match op with
  |.indexAddr t x i=>match Am P t with
   |some (l,e)=>when (Nat.beq len l&&Nat.beq sz (pU P e)&&yj P e) [x,i]
   |none=>none
  |_=>none
 |.aw sz=>match op with
  |.indexAddr t x i=>match mD P t with
   |some e=>when (Nat.beq sz (pU P e)&&yj P e) [x,i]
   |none=>none
  |_=>none
 |.ji len agg n=>match op with
  |.index t x i=>match Am P t with
   |some (l,e)=>when (Nat.beq len l&&ob P e n agg) [x,i]
   |none=>none
  |_=>none
 |.cm=>match op with | .index t x i=>when (ld P t) [x,i] | _=>none
 |.mS sz lo hi=>match op with
  |.slice t x l h none=>match mD P t with
   |some e=>when (Nat.beq sz (pU P e)&&yj P e&&A9 l lo&&A9 h hi) (x::ll l h)
   |none=>none
  |_=>none
 |.bU lo hi=>match op with
  |.slice t x l h none=>when (ld P t&&A9 l lo&&A9 h hi) (x::ll l h)
  |_=>none
 |.tr len sz lo hi=>match op with
  |.slice t x l h none=>match Am P t with
   |some (n,e)=>when (Nat.beq len n&&Nat.beq sz (pU P e)&&yj P e&&A9 l lo&&A9 h hi) (x::ll l h)
   |none=>none
  |_=>none
 |.extract i=>match op with | .extract x j=>when (Nat.beq i j) [x] | _=>none
 |.dF=>match pX op with
  |some (.len,[x],[t])=>when (ld P t) [x]
  |_=>none
 |.ay=>match pX op with
  |some (.len,[x],[t])=>when ((mD P t).isSome) [x]
  |_=>none
 |.qB n=>match pX op with
  |some (.len,[x],[t])=>match Am P t with
   |some (m,_)=>when (Nat.beq n m) [x]
   |none=>match Sg P t with
    |some a=>match Am P a with
     |some (m,_)=>when (Nat.beq n m) [x]
     |none=>none
    |none=>none
  |_=>none
 |.min=>match pX op with | some (.min,xs,_)=>some xs | _=>none
 |.max=>match pX op with | some (.max,xs,_)=>some xs | _=>none
theorem Ho {P:Program}{op:Op}{po:dW}{xs:List Operand}(h:WC P op po=some xs):PR P op po xs:=by
 unfold WC at h;split at h
 ·split at h<;>first | (cases h;exact .pick _ _ _) | cases h
 ·split at h
  ·rename_i zero parts _ t ps;split at h
   ·rename_i fields e1;split at h
    ·rename_i l e2;obtain⟨g,e⟩:=fC h;clear h;subst e;have h:=g;simp only[Bool.and_eq_true] at h;obtain⟨⟨⟨h1,h2⟩,h3⟩,h4⟩:=h;obtain⟨b,ht,-⟩:=xS (pP e1) h4;obtain⟨k1,k2⟩:=rX e2;refine .build t ps zero parts _ b fields (fun j=>((fields[j]?).map fun f=>pU P f.type).getD 0) ht (gG h2) (fun j f hf=>?_) ((kB h1).trans k1) k2;obtain⟨d,b',q⟩:=jz (rS h3 j f (by simpa using hf));exact⟨d,b',_,by rw[hf];exact q⟩
    ·cases h
   ·split at h
    ·rename_i len e e2;obtain⟨g,e⟩:=fC h;clear h;subst e;have h:=g;simp only[Bool.and_eq_true] at h;obtain⟨⟨⟨h1,h2⟩,h3⟩,h4⟩:=h;obtain⟨b,ht,-⟩:=xS (qj e2) h4;obtain⟨d,b',q⟩:=jz h3;exact .Ji t ps zero parts _ b len e (pU P e) d b' _ ht (gG h2) q (kB h1)
    ·cases h
  ·cases h
 ·split at h<;>first | (cases h;exact .nilCheck _) | cases h
 ·split at h
  ·obtain⟨g,e⟩:=fC h;clear h;subst e;have h:=g;simp only[decide_eq_true_eq] at h;subst h;exact .bin _ _ _ _ _
  ·cases h
 ·split at h
  ·rename_i neg d _ o t x y u;split at h
   ·rename_i d' e1;obtain⟨g,e⟩:=fC h;clear h;subst e;have h:=g;simp only[Bool.and_eq_true] at h;obtain⟨⟨h1,h2⟩,h3⟩:=h;obtain⟨b,ht,-⟩:=xS e1 h2
    cases neg with
    |true=>simp only[if_true,decide_eq_true_eq] at h1;subst h1;exact .neq _ _ _ _ _ _ _ _ _ ht (lB h3)
    |false=>simp only[Bool.false_eq_true,if_false,decide_eq_true_eq] at h1;subst h1;exact .eql _ _ _ _ _ _ _ _ _ ht (lB h3)
   ·cases h
  ·cases h
 ·split at h
  ·rename_i neg plan _ o t x y u;split at h
   ·rename_i fields e1;obtain⟨g,e⟩:=fC h;clear h;subst e;have h:=g;simp only[Bool.and_eq_true,Bool.not_eq_true'] at h;obtain⟨⟨⟨h1,h2⟩,h3⟩,h4⟩:=h;refine .lu neg o t x y u fields plan ?_ (pP e1) h2 h3 (rC h4)
    cases neg<;>simpa using h1
   ·split at h
    ·rename_i len e j ed r e2;split at h
     ·rename_i d e3;obtain⟨g,e'⟩:=fC h;clear h;subst e';have h:=g;simp only[Bool.and_eq_true,Bool.not_eq_true'] at h;obtain⟨⟨⟨⟨h1,h2⟩,h3⟩,h4⟩,h5⟩:=h;obtain⟨b,q,-⟩:=xS e3 h4;refine .O3 neg o t x y u len e d b ed _ ?_ (qj e2) q (lB h3) h2 (by rw[List.range_eq_range'];exact tI h5)
      cases neg<;>simpa using h1
     ·cases h
    ·cases h
  ·cases h
 ·split at h
  ·obtain⟨g,e⟩:=fC h;clear h;subst e;have h:=g;simp only[decide_eq_true_eq] at h;subst h;exact .un _ _ _
  ·cases h
 ·split at h
  ·obtain⟨g,e⟩:=fC h;clear h;subst e;have h:=g;simp only[Bool.and_eq_true,decide_eq_true_eq,Option.isSome_iff_exists] at h;obtain⟨⟨k,h1⟩,h2⟩:=h;exact .dg _ _ _ _ ⟨k,w4 h1⟩ (w4 h2)
  ·cases h
 ·split at h
  ·obtain⟨g,e⟩:=fC h;clear h;subst e;have h:=g;simp only[Bool.and_eq_true] at h;exact .pr _ _ _ (jm h.1) (jm h.2)
  ·cases h
 ·split at h
  ·obtain⟨g,e⟩:=fC h;clear h;subst e;have h:=g;simp only[Bool.and_eq_true,Option.isSome_iff_exists] at h;obtain⟨⟨k,h1⟩,h2⟩:=h;exact .oC _ _ _ ⟨k,w4 h1⟩ (jm h2)
  ·cases h
 ·split at h
  ·split at h
   ·rename_i e e1;obtain⟨g,e⟩:=fC h;clear h;subst e;have h:=g;simp only[Bool.and_eq_true] at h;exact .gT _ _ _ e (jt e1) (sR h.1) (jm h.2)
   ·cases h
  ·cases h
 ·split at h
  ·split at h
   ·rename_i d e1;obtain⟨g,e⟩:=fC h;clear h;subst e;have h:=g;simp only[Bool.and_eq_true] at h;rw[gL h.1];refine .pE _ _ d e1 (fun ms e=>?_);subst e
    cases h.2
   ·cases h
  ·cases h
 ·split at h
  ·obtain⟨g,e⟩:=fC h;clear h;subst e;have h:=g;simp only[Bool.and_eq_true] at h;rw[gL h.1,gL h.2];exact .mQ _ _ _
  ·cases h
 ·split at h
  ·split at h
   ·rename_i fields e1;split at h
    ·rename_i fd e2;obtain⟨g,e⟩:=fC h;clear h;subst e;have h:=g;simp only[Bool.and_eq_true,Bool.not_eq_true'] at h;obtain⟨⟨h1,h2⟩,h3⟩:=h;obtain⟨d,b,q⟩:=jz h2;rw[gL h1];exact .fieldAddr _ _ _ fields fd d _ b _ (pP e1) e2 q (fun e=>by rw[e] at h3;cases h3)
    ·cases h
   ·cases h
  ·cases h
 ·split at h
  ·split at h
   ·rename_i fields e1;split at h
    ·rename_i fd e2;obtain⟨g,e⟩:=fC h;clear h;subst e;have h:=g;simp only[Bool.and_eq_true] at h;obtain⟨h1,h2⟩:=h;obtain⟨d,b,q,-⟩:=fU h2;rw[gL h1];exact .field _ _ _ fields fd d _ b _ (pP e1) e2 q
    ·cases h
   ·cases h
  ·cases h
 ·split at h
  ·split at h
   ·rename_i l e e1;obtain⟨g,e⟩:=fC h;clear h;subst e;have h:=g;simp only[Bool.and_eq_true] at h;obtain⟨⟨h1,h2⟩,h3⟩:=h;obtain⟨d,b,q⟩:=jz h3;rw[gL h1,gL h2];exact .jW _ _ _ l e d _ b _ (qj e1) q
   ·cases h
  ·cases h
 ·split at h
  ·split at h
   ·rename_i e e1;obtain⟨g,e⟩:=fC h;clear h;subst e;have h:=g;simp only[Bool.and_eq_true] at h;obtain⟨h1,h2⟩:=h;obtain⟨d,b,q⟩:=jz h2;rw[gL h1];exact .aw _ _ _ e d _ b _ (jt e1) q
   ·cases h
  ·cases h
 ·split at h
  ·split at h
   ·rename_i l e e1;obtain⟨g,e⟩:=fC h;clear h;subst e;have h:=g;simp only[Bool.and_eq_true] at h;obtain⟨h1,h2⟩:=h;obtain⟨d,b,q,-⟩:=fU h2;rw[gL h1];exact .ji _ _ _ l e d _ b _ (qj e1) q
   ·cases h
  ·cases h
 ·split at h
  ·obtain⟨g,e⟩:=fC h;clear h;subst e;have h:=g;exact .cm _ _ _ (jm h)
  ·cases h
 ·split at h
  ·split at h
   ·rename_i e e1;obtain⟨g,e⟩:=fC h;clear h;subst e;have h:=g;simp only[Bool.and_eq_true,A9,beq_iff_eq] at h;obtain⟨⟨⟨h1,h2⟩,h3⟩,h4⟩:=h;obtain⟨d,b,q⟩:=jz h2;rw[gL h1,←h3,←h4];exact .mS _ _ _ _ e d _ b _ (jt e1) q
   ·cases h
  ·cases h
 ·split at h
  ·obtain⟨g,e⟩:=fC h;clear h;subst e;have h:=g;simp only[Bool.and_eq_true,A9,beq_iff_eq] at h;obtain⟨⟨h1,h3⟩,h4⟩:=h;rw[←h3,←h4];exact .bU _ _ _ _ (jm h1)
  ·cases h
 ·split at h
  ·split at h
   ·rename_i n e e1;obtain⟨g,e⟩:=fC h;clear h;subst e;have h:=g;simp only[Bool.and_eq_true,A9,beq_iff_eq] at h;obtain⟨⟨⟨⟨h0,h1⟩,h2⟩,h3⟩,h4⟩:=h;obtain⟨d,b,q⟩:=jz h2;rw[gL h0,gL h1,←h3,←h4];exact .tr _ _ _ _ n e d _ b _ (qj e1) q
   ·cases h
  ·cases h
 ·split at h
  ·obtain⟨g,e⟩:=fC h;clear h;subst e;have h:=g;rw[gL h];exact .extract _ _
  ·cases h
 ·split at h
  ·rename_i x t e1;obtain⟨g,e⟩:=fC h;clear h;subst e;have h:=g;rw[mA e1];exact .dF _ _ (jm h)
  ·cases h
 ·split at h
  ·rename_i x t e1;obtain⟨g,e⟩:=fC h;clear h;subst e;have h:=g;obtain⟨e,he⟩:=Option.isSome_iff_exists.1 h;rw[mA e1];exact .ay _ _ e (jt he)
  ·cases h
 ·split at h
  ·rename_i x t e1;rw[mA e1];split at h
   ·rename_i m e e2;obtain⟨g,e⟩:=fC h;clear h;subst e;have h:=g;rw[gL h];exact .qB _ _ _ e (qj e2)
   ·split at h
    ·rename_i a e2;split at h
     ·rename_i m e e3;obtain⟨g,e⟩:=fC h;clear h;subst e;have h:=g;rw[gL h];exact .Lj _ _ a _ e (Si e2) (qj e3)
     ·cases h
    ·cases h
  ·cases h
 ·split at h
  ·rename_i ys ts e1
   cases h
   rw[mA e1];exact .min ⟨xs⟩ ⟨ts⟩
  ·cases h
 ·split at h
  ·rename_i ys ts e1
   cases h
   rw[mA e1];exact .max ⟨xs⟩ ⟨ts⟩
  ·cases h
end Go.Idl
namespace Go.Idl
def GI:Op→Option (Operand×List Operand)
 |.call ⟨.value g,xs,_⟩=>some (g,xs.toList)
 |_=>none
theorem GJ {op:Op}{g:Operand}{xs:List Operand}(h:GI op=some (g,xs)):∃ts,op=.call ⟨.value g,⟨xs⟩,ts⟩:=by
 unfold GI at h;split at h
 ·rename_i g' xs' ts;obtain⟨xs'⟩:=xs'
  cases h
  exact⟨ts,rfl⟩
 ·cases h
variable (P:Program) (rows:Nat→Option (List IV))
def WB (op:Op):IK→Bool
 |.mv x' _ _=>match op with
  |.move x=>gq rows x x'
  |.assign x=>gq rows x x'
  |_=>false
 |.p po as=>match WC P op po with
  |some xs=>nD rows xs as
  |none=>false
 |.same x'=>match op with
  |.convert s t x=>Nat.beq s t&&(match mD P t with | some e=>rI P e | none=>false)&&gq rows x x'
  |_=>false
 |.load agg n a' _=>match op with
  |.load t a=>ob P t n agg&&gq rows a a'
  |_=>false
 |.store n a' x' _=>match op with
  |.store t a x=>ob P t n (tC P t)&&gq rows a a'&&gq rows x x'
  |_=>false
 |.bX _ zero _=>match op with | .alloc t=>mN P t zero | _=>false
 |.iv zero _=>match op with | .alloc t=>mN P t zero | _=>false
 |.f5 _ _ x'=>match op with | .box _ x=>gq rows x x' | _=>false
 |.nZ _ x'=>match op with | .box _ x=>gq rows x x' | _=>false
 |.buildSlice n len zero parts as=>match op with
  |.buildSlice t len' ps=>match mD P t with
   |some e=>Nat.beq len len'&&ob P e n (tC P e)&&mN P e zero&&mE parts (ps.toList.map fun p=>(p.1*n,n))&&Nat.ble (len*n) 16777216&&nD rows (ps.toList.map (·.2)) as
   |none=>false
  |_=>false
 |.fb x'=>match op with
  |.convert s d x=>match mD P d with
   |some e=>ld P s&&rI P e&&gq rows x x'
   |none=>false
  |_=>false
 |.me n bytes zero l' c'=>match op with
  |.makeSlice t l c=>match mD P t with
   |some e=>ob P e n (tC P e)&&Nat.beq bytes (bytesOf P e)&&mN P e zero&&gq rows l l'&&gq rows c c'
   |none=>false
  |_=>false
 |.kO n bytes zero l' c'=>match op with
  |.makeSlice t l c=>match mD P t with
   |some e=>ob P e n (tC P e)&&Nat.beq bytes (bytesOf P e)&&mN P e zero&&gq rows l l'&&gq rows c c'
   |none=>false
  |_=>false
 |.append n bytes s' x'=>match pX op with
  |some (.append,[s,x],[t,u])=>match mD P t with
   |some e=>ob P e n (tC P e)&&Nat.beq bytes (bytesOf P e) && !Nat.beq bytes 0 && !Nat.beq n 0&&mN P e (zeroIV e)&&(ld P u||(mD P u).isSome)&&gq rows s s'&&gq rows x x'
   |none=>false
  |_=>false
 |.copy n d' s'=>match pX op with
  |some (.copy,[d,s],[t,_])=>match mD P t with
   |some e=>ob P e n (tC P e)&&gq rows d d'&&gq rows s s'
   |none=>false
  |_=>false
 |.aj f as _=>match GI op with
  |some (.func g,xs)=>Nat.beq f g&&nD rows xs as
  |_=>false
 |.fH g' as _=>match GI op with
  |some (g,xs)=>gq rows g g'&&nD rows xs as
  |_=>false
 |.mkMap=>match op with | .makeMap _ none=>true | _=>false
 |.lookup ed zero ok m' x'=>match op with
  |.lookup t m x ok'=>match Lr P t with
   |some (k,e)=>match P.underlying k,P.info? e with
    |some d,some i=>match i.zero with
     |some z=>(ok==ok')&&Ju ed d&&Rc 20000 zero z&&gq rows m m'&&gq rows x x'
     |none=>false
    |_,_=>false
   |none=>false
  |_=>false
 |.jy ed m' x' v'=>match op with
  |.mapUpdate t m x v=>match Lr P t with
   |some (k,_)=>match P.underlying k with
    |some d=>Ju ed d&&gq rows m m'&&gq rows x x'&&gq rows v v'
    |none=>false
   |none=>false
  |_=>false
 |.kt m'=>match pX op with
  |some (.len,[m],[t])=>(Lr P t).isSome&&gq rows m m'
  |_=>false
 |.fa _ x'=>match op with
  |.range t x=>ld P t&&gq rows x x'
  |_=>false
 |.ee a'=>match op with
  |.next a true=>gq rows a a'
  |_=>false
where
 zeroIV (e:TypeId):List IV:=match P.info? e with
  |some i=>match i.zero with
   |some v=>v.cells.toList.map ofV
   |none=>[]
  |none=>[]
 ofV:Value→IV
  |.bool b=>.bool b
  |.int k n=>.int k n
  |.float k n=>.float k n
  |.complex k a b=>.um k a b
  |.string t=>.str t.data.toList
  |.pointer _=>.gE
  |.slice _ _ _=>.aa
  |.map _=>.gX
  |.nilIface=>.nilIface
  |.nilFunc=>.nilFunc
  |_=>.undef
variable {P rows}
theorem Hn {op:Op}{k:IK}(h:WB P rows op k=true):KR P rows op k:=by
 unfold WB at h;split at h
 ·split at h
  ·exact .move _ _ _ _ (bt h)
  ·exact .assign _ _ _ _ (bt h)
  ·cases h
 ·split at h
  ·rename_i e;exact .p _ _ _ _ (Ho e) (jT h)
  ·cases h
 ·split at h
  ·simp only[Bool.and_eq_true] at h;obtain⟨⟨h1,h2⟩,h3⟩:=h;rw[gL h1];split at h2
   ·rename_i e he;exact .same _ e _ _ (jt he) (sR h2) (bt h3)
   ·cases h2
  ·cases h
 ·split at h
  ·simp only[Bool.and_eq_true] at h;obtain⟨d,b,q,-⟩:=fU h.1;exact .load _ d _ b _ _ _ _ q (bt h.2)
  ·cases h
 ·split at h
  ·simp only[Bool.and_eq_true] at h;obtain⟨d,b,q,-⟩:=fU h.1.1;exact .store _ d _ b _ _ _ _ _ _ q (bt h.1.2) (bt h.2)
  ·cases h
 ·split at h<;>first | exact .bX _ _ _ _ (gG h) | cases h
 ·split at h<;>first | exact .iv _ _ _ (gG h) | cases h
 ·split at h<;>first | exact .f5 _ _ _ _ _ (bt h) | cases h
 ·split at h<;>first | exact .nZ _ _ _ _ (bt h) | cases h
 ·split at h
  ·split at h
   ·rename_i e he;simp only[Bool.and_eq_true] at h;obtain⟨⟨⟨⟨⟨h1,h2⟩,h3⟩,h4⟩,h5⟩,h6⟩:=h;obtain⟨d,b,q,-⟩:=fU h2;have hl:=Nat.le_of_ble_eq_true h5;rw[gL h1] at hl ⊢;exact .buildSlice _ e _ _ _ _ _ d _ b _ (jt he) q (gG h3) (kB h4) (by simpa using hl) (jT h6)
   ·cases h
  ·cases h
 ·split at h
  ·split at h
   ·rename_i e he;simp only[Bool.and_eq_true] at h;exact .fb _ _ e _ _ (jm h.1.1) (jt he) (sR h.1.2) (bt h.2)
   ·cases h
  ·cases h
 ·split at h
  ·split at h
   ·rename_i e he;simp only[Bool.and_eq_true] at h;obtain⟨⟨⟨⟨h1,h2⟩,h3⟩,h4⟩,h5⟩:=h;obtain⟨d,b,q,i,hi,hb⟩:=fU h1;have hb2:bytesOf P e=b:=by simp[bytesOf,hi,hb]
    rw[gL h2,hb2];exact .me _ e _ _ _ _ _ d _ b _ (jt he) q (gG h3) (bt h4) (bt h5)
   ·cases h
  ·cases h
 ·split at h
  ·split at h
   ·rename_i e he;simp only[Bool.and_eq_true] at h;obtain⟨⟨⟨⟨h1,h2⟩,h3⟩,h4⟩,h5⟩:=h;obtain⟨d,b,q,i,hi,hb⟩:=fU h1;have hb2:bytesOf P e=b:=by simp[bytesOf,hi,hb]
    rw[gL h2,hb2];exact .kO _ e _ _ _ _ _ d _ b _ (jt he) q (gG h3) (bt h4) (bt h5)
   ·cases h
  ·cases h
 ·split at h
  ·rename_i s x t u e1;rw[mA e1];split at h
   ·rename_i e he;simp only[Bool.and_eq_true,Bool.not_eq_true',Bool.or_eq_true] at h;obtain⟨⟨⟨⟨⟨⟨⟨h1,h2⟩,h3⟩,h4⟩,h5⟩,h6⟩,h7⟩,h8⟩:=h;obtain⟨d,b,q,i,hi,hb⟩:=fU h1;have hb2:bytesOf P e=b:=by simp[bytesOf,hi,hb]
    have hbb:=gL h2;rw[hb2] at hbb;subst hbb;refine .append _ _ e _ _ _ _ _ d _ _ _ (jt he) ?_ q (fun q=>by rw[q] at h3;cases h3) (fun q=>by rw[q] at h4;cases h4) (gG h5) (bt h7) (bt h8);rcases h6 with h6 | h6
    ·exact .inl (jm h6)
    ·obtain⟨e',he'⟩:=Option.isSome_iff_exists.1 h6;exact .inr ⟨e',jt he'⟩
   ·cases h
  ·cases h
 ·split at h
  ·rename_i d s t u e1;rw[mA e1];split at h
   ·rename_i e he;simp only[Bool.and_eq_true] at h;obtain⟨td,b,q,-⟩:=fU h.1.1;exact .copy _ _ e _ _ _ _ td _ b _ (jt he) q (bt h.1.2) (bt h.2)
   ·cases h
  ·cases h
 ·split at h
  ·rename_i g xs e1;obtain⟨ts,rfl⟩:=GJ e1;simp only[Bool.and_eq_true] at h;rw[gL h.1];exact .aj _ _ _ _ _ (jT h.2)
  ·cases h
 ·split at h
  ·rename_i g xs e1;obtain⟨ts,rfl⟩:=GJ e1;simp only[Bool.and_eq_true] at h;exact .fH _ _ _ _ _ _ (bt h.1) (jT h.2)
  ·cases h
 ·split at h<;>first | exact .mkMap _ | cases h
 ·split at h
  ·split at h
   ·rename_i k e he;split at h
    ·rename_i d i e1 e2;split at h
     ·rename_i z ez;simp only[Bool.and_eq_true,beq_iff_eq] at h;obtain⟨⟨⟨⟨h1,h2⟩,h3⟩,h4⟩,h5⟩:=h;subst h1;exact .lookup _ k e _ _ _ _ _ _ d _ (ED he) e1 (tH h2) ⟨i,z,e2,ez,pq _ _ _ h3⟩ (bt h4) (bt h5)
     ·cases h
    ·cases h
   ·cases h
  ·cases h
 ·split at h
  ·split at h
   ·rename_i k e he;split at h
    ·rename_i d e1;simp only[Bool.and_eq_true] at h;obtain⟨⟨⟨h2,h3⟩,h4⟩,h5⟩:=h;exact .jy _ k e _ _ _ _ _ _ d _ (ED he) e1 (tH h2) (bt h3) (bt h4) (bt h5)
    ·cases h
   ·cases h
  ·cases h
 ·split at h
  ·rename_i m t e1;rw[mA e1];simp only[Bool.and_eq_true] at h;obtain⟨⟨k,e⟩,he⟩:=Option.isSome_iff_exists.1 h.1;exact .kt _ k e _ _ (ED he) (bt h.2)
  ·cases h
 ·split at h
  ·simp only[Bool.and_eq_true] at h;exact .fa _ _ _ _ (jm h.1) (bt h.2)
  ·cases h
 ·split at h
  ·exact .ee _ _ (bt h)
  ·cases h
def Ba:Option Nat→Option Nat→Bool
 |none,none=>true
 |some i,some j=>Nat.beq i j
 |_,_=>false
theorem CT {a b:Option Nat}(h:Ba a b=true):a=b:=by
 unfold Ba at h;split at h
 ·rfl
 ·rw[gL h]
 ·cases h
variable (P rows)
def FR (ops:Array Oper):Option (Nat×Bool)→Option (Nat×Bool)→Bool
 |none,none=>true
 |some (j,want),some (s,want')=>(want==want')&&Ba ((ops[j]?).bind (·.dst)) (some s)
 |_,_=>false
def Rb (N:Nat) (ops:Array Oper) (o:Oper) (i:dh):Bool :=
 Ba o.dst i.dst&&(match i.dst with | some d=>Nat.blt d N | none=>true)&&FR ops o.guard i.guard&&WB P rows o.op i.k
def wo (N:Nat) (ops:Array Oper):List Oper→List dh→Bool
 |[],[]=>true
 |o::os,i::is=>Rb P rows N ops o i&&wo N ops os is
 |_,_=>false
def Gc (N:Nat):List Nat→Bool
 |[]=>true
 |p::r=>Nat.blt p N&&Gc N r
def sL:List Nat→List Nat→Bool
 |[],[]=>true
 |a::r,b::s=>Nat.beq a b&&sL r s
 |_,_=>false
variable (EW:FuncId→Nat→Option mX)
def fT (N:Nat):Code→aq→Bool
 |.skip,x=>match x with | .skip=>true | _=>false
 |.label _,x=>match x with | .skip=>true | _=>false
 |.region _ ops false,x=>match x with | .ops is=>wo P rows N ops ops.toList is | _=>false
 |.region _ ops true,x=>match x with | .draw is pre=>wo P rows N ops ops.toList is&&wD ops is pre | _=>false
 |.seq a b,x=>match x with | .seq y z=>fT N a y&&fT N b z | _=>false
 |.cond c a b,x=>match x with | .cond c' y z=>gq rows c c'&&fT N a y&&fT N b z | _=>false
 |.block id a,x=>match x with | .block id' y=>Nat.beq id id'&&fT N a y | _=>false
 |.loop a,x=>match x with | .loop _ y=>fT N a y | _=>false
 |.exit id,x=>match x with | .exit id'=>Nat.beq id id' | _=>false
 |.ret,x=>match x with | .ret=>true | _=>false
 |.scope a,x=>fT N a x
 |.rangeFunc g ps as body,x=>match x with
  |.kv g' fn site=>match EW fn site with
   |some r=>gq rows g g'&&sL ps.toList r.ps&&Gc N r.ps&&fT N as r.assign&&fT N body r.body
   |none=>false
  |_=>false
 |_,_=>false
variable {P rows EW}
theorem D7 {N:Nat}{ops:Array Oper}{o:Oper}{i:dh}(h:Rb P rows N ops o i=true):VY P rows N ops o i:=by
 simp only[Rb,Bool.and_eq_true] at h;obtain⟨⟨⟨h1,h2⟩,h3⟩,h4⟩:=h;refine⟨CT h1,fun d hd=>?_,Hn h4,?_⟩
 ·rw[hd] at h2;simpa[Nat.blt_eq] using h2
 ·unfold FR at h3;split at h3
  ·rename_i e1 e2;rw[e1,e2];trivial
  ·rename_i j w s w' e1 e2;rw[e1,e2];simp only[Bool.and_eq_true,beq_iff_eq] at h3;exact⟨h3.1,CT h3.2⟩
  ·cases h3
theorem ou {N:Nat}{ops:Array Oper}:∀{os:List Oper}{is:List dh},wo P rows N ops os is=true→uh P rows N ops os is
 |[],[],_=>.nil
 |o::os,i::is,h=>by
  simp only[wo,Bool.and_eq_true] at h;exact .cons (D7 h.1) (ou h.2)
 |[],_::_,h=>by simp[wo] at h
 |_::_,[],h=>by simp[wo] at h
theorem Gd {N:Nat}:∀{l:List Nat},Gc N l=true→∀p∈l,p<N
 |[],_,p,h=>by cases h
 |q::l,h,p,hp=>by
  simp only[Gc,Bool.and_eq_true,Nat.blt_eq] at h;rcases List.mem_cons.1 hp with rfl | hp
  ·exact h.1
  ·exact Gd h.2 p hp
theorem Cj:∀{a b:List Nat},sL a b=true→a=b
 |[],[],_=>rfl
 |a::r,b::s,h=>by
  simp only[sL,Bool.and_eq_true] at h;rw[gL h.1,Cj h.2]
 |[],_::_,h=>by simp[sL] at h
 |_::_,[],h=>by simp[sL] at h
theorem fE {T:MW}{N:Nat}:∀(c:Code) (x:aq),fT P rows T.EW N c x=true→CR P rows N T (fun ops is pre=>wD ops is pre=true) c x
 |.skip,x,h=>by simp only[fT] at h;split at h<;>first | exact .skip | cases h
 |.label l,x,h=>by simp only[fT] at h;split at h<;>first | exact .label _ | cases h
 |.region id ops false,x,h=>by simp only[fT] at h;split at h<;>first | exact .ops _ _ _ (ou h) | cases h
 |.region id ops true,x,h=>by
  simp only[fT] at h;split at h
  ·simp only[Bool.and_eq_true] at h;exact .draw _ _ _ _ (ou h.1) h.2
  ·cases h
 |.seq a b,x,h=>by
  simp only[fT] at h;split at h
  ·simp only[Bool.and_eq_true] at h;exact .seq (fE a _ h.1) (fE b _ h.2)
  ·cases h
 |.cond c a b,x,h=>by
  simp only[fT] at h;split at h
  ·simp only[Bool.and_eq_true] at h;exact .cond (bt h.1.1) (fE a _ h.1.2) (fE b _ h.2)
  ·cases h
 |.block id a,x,h=>by
  simp only[fT] at h;split at h
  ·simp only[Bool.and_eq_true] at h;rw[gL h.1];exact .block (fE a _ h.2)
  ·cases h
 |.loop a,x,h=>by
  simp only[fT] at h;split at h
  ·exact .loop (fE a _ h)
  ·cases h
 |.exit id,x,h=>by
  simp only[fT] at h;split at h
  ·rw[gL h];exact .exit _
  ·cases h
 |.ret,x,h=>by simp only[fT] at h;split at h<;>first | exact .ret | cases h
 |.scope a,x,h=>.scope (fE a x (by simpa only[fT] using h))
 |.rangeFunc g ps as body,x,h=>by
  simp only[fT] at h;split at h
  ·split at h
   ·rename_i r hr;simp only[Bool.and_eq_true] at h;obtain⟨⟨⟨⟨h1,h2⟩,h3⟩,h4⟩,h5⟩:=h;exact .kv (bt h1) hr (Cj h2) (Gd h3) (fE as _ h4) (fE body _ h5)
   ·cases h
  ·cases h
 |.goto _,x,h=>by simp[fT] at h
 |.refuse _,x,h=>by simp[fT] at h
variable (P)
def O0:ResultVar→RV→Bool
 |.tmp i,.t j=>Nat.beq i j
 |.cell i t,.cell j agg n=>Nat.beq i j&&ob P t n agg
 |_,_=>false
def sI:List ResultVar→List RV→Bool
 |[],[]=>true
 |x::xs,y::ys=>O0 P x y&&sI xs ys
 |_,_=>false
variable (rows EW)
def Ra (f:FuncId) (ifn:dJ):Bool :=
 match P.funcs[f]? with
 |some fn=>match fn.body with
  |some c=>!(fn.name == "runtime.NumGoroutine")&&Nat.ble ifn.rO fn.ntmps&&sI P fn.results.toList ifn.yp&&fT P rows EW fn.ntmps c ifn.body
  |none=>false
 |none=>false
variable {P rows EW}
theorem rD:∀{xs:List ResultVar}{ys:List RV},sI P xs ys=true→vO P xs ys
 |[],[],_=>.nil
 |x::xs,y::ys,h=>by
  simp only[sI,Bool.and_eq_true] at h;refine .cons ?_ (rD h.2);have h:=h.1;unfold O0 at h;split at h
  ·rw[gL h];exact .tmp _
  ·simp only[Bool.and_eq_true] at h;obtain⟨d,b,q,-⟩:=fU h.2;rw[gL h.1];exact .cell _ _ d _ b _ q
  ·cases h
 |[],_::_,h=>by simp[sI] at h
 |_::_,[],h=>by simp[sI] at h
theorem D6 {T:MW}{f:FuncId}{ifn:dJ}(h:Ra P rows T.EW f ifn=true):∃fn c,TO ⟨P,rows,T,fun ops is pre=>wD ops is pre=true⟩ f ifn fn c:=by
 unfold Ra at h;split at h
 ·rename_i fn e1;split at h
  ·rename_i c e2;simp only[Bool.and_eq_true,Bool.not_eq_true'] at h;obtain⟨⟨⟨h1,h2⟩,h3⟩,h4⟩:=h;exact⟨fn,c,e1,e2,h1,fE c _ h4,Nat.le_of_ble_eq_true h2,rD h3⟩
  ·cases h
 ·cases h
theorem FT.vR {α:Type}{p:Nat→α→Bool}:∀{t:FT α},t.all p=true→∀{i v},t.find i=some v→p i v=true
 |.nil,_,i,v,h=>by simp[FT.find] at h
 |.node k v l r,ha,i,x,h=>by
  simp only[FT.all,Bool.and_eq_true] at ha;simp only[FT.find] at h;split at h
  ·rename_i e
   cases h
   rw[gL e];exact ha.1.1
  ·split at h
   ·exact FT.vR ha.1.2 h
   ·exact FT.vR ha.2 h
end Go.Idl
namespace Go.Idl
open Classical
def lO (c c':bW):Prop:=∀a b m r,c a b m=some r→c' a b m=some r
def sy (l l':kH):Prop:=∀h b st r,l h b st=some r→l' h b st=some r
theorem qm {c c':bW}(hc:lO c c') {st:St}{f:Callee}{as:List IV}{hs:List Arg}{r:IV×cV×St}(h:dC c st f as hs=some r):dC c' st f as hs=some r:=by
 unfold dC at h ⊢;split at h
 ·rename_i q hh e1 e2;split at h
  ·cases h
  ·rename_i m em;split at h
   ·cases h
   ·rename_i v m' ec;rw[hc _ _ _ _ ec];exact h
 ·cases h
theorem NJ {c c':bW}(hc:lO c c') {st:St}{k:IK}{r:IV×cV×St}(h:k.run c st=some r):k.run c' st=some r:=by
 cases k with
 |aj f as hs =>
  simp only[IK.run] at h ⊢;split at h
  ·exact qm hc h
  ·cases h
 |fH g as hs =>
  simp only[IK.run] at h ⊢;split at h
  ·split at h
   ·exact qm hc h
   ·exact qm hc h
   ·cases h
  ·cases h
 |_=>exact h
theorem zs {c c':bW}(hc:lO c c') {st:St}{o:dh}{r:St}(h:o.fF c st=some r):o.fF c' st=some r:=by
 unfold dh.fF at h ⊢;split at h
 ·split at h
  ·rename_i e;rw[NJ hc e];exact h
  ·cases h
 ·exact h
 ·cases h
theorem Gn {c c':bW}(hc:lO c c') {st:St}{o:dh}{r:St}(h:o.run c st=some r):o.run c' st=some r:=by
 unfold dh.run at h ⊢;split at h
 ·split at h
  ·exact zs hc h
  ·cases h
 ·exact zs hc h
theorem rT {c c':bW}(hc:lO c c'):∀{l:List dh}{st r:St},bm c l st=some r→bm c' l st=some r
 |[],_,_,h=>h
 |o::l,st,r,h=>by
  simp only[bm] at h ⊢;split at h
  ·rename_i e;rw[Gn hc e];exact rT hc h
  ·cases h
theorem eF {c c':bW}(hc:lO c c') {l l':kH}(hl:sy l l'):∀{x:aq}{st:St}{r:Ex×St},x.run c l st=some r→x.run c' l' st=some r
 |.skip,_,_,h=>h
 |.ops is,st,r,h=>by
  simp only[aq.run] at h ⊢;split at h
  ·rename_i e;rw[rT hc e];exact h
  ·cases h
 |.draw is _,st,r,h=>by
  simp only[aq.run] at h ⊢;split at h
  ·split at h
   ·rename_i e;rw[rT hc e];exact h
   ·cases h
  ·cases h
 |.seq a b,st,r,h=>by
  simp only[aq.run] at h ⊢;split at h
  ·rename_i e;rw[eF hc hl e];exact eF hc hl h
  ·rename_i hn;rw[eF hc hl h];split
   ·rename_i e;cases e;exact (hn _ h).elim
   ·rfl
 |.cond d a b,st,r,h=>by
  simp only[aq.run] at h ⊢;split at h
  ·exact eF hc hl h
  ·exact eF hc hl h
  ·cases h
 |.block id b,st,r,h=>by
  simp only[aq.run] at h ⊢;split at h
  ·rename_i e;rw[eF hc hl e];exact h
  ·rename_i hn;rw[eF hc hl h];split
   ·rename_i e;cases e;exact (hn _ _ h).elim
   ·rfl
 |.loop hd b,st,r,h=>hl _ _ _ _ (by simpa only[aq.run] using h)
 |.kv g fn site,st,r,h=>by
  simp only[aq.run] at h ⊢;split at h
  ·split at h
   ·split at h
    ·rename_i e;rw[hc _ _ _ _ e];exact h
    ·cases h
   ·cases h
  ·cases h
 |.exit _,_,_,h=>h
 |.ret,_,_,h=>h
theorem wJ {c c':bW}(hc:lO c c') {l l':kH}(hl:sy l l') {fn:dJ}{as:List IV}{m:IM}{r:IV×IM}(h:fn.call c l as m=some r):fn.call c' l' as m=some r:=by
 unfold dJ.call at h ⊢;split at h
 ·cases h
 ·rename_i hn;rw[if_neg hn];split at h
  ·rename_i e;rw[eF hc hl e];exact h
  ·cases h
theorem xH {c c':bW}(hc:lO c c') {l l':kH}(hl:sy l l') {rn:mX}{id:Nat}{tm:Env}{as:List IV}{m:IM}{r:IV×IM}(h:rn.call c l id tm as m=some r):rn.call c' l' id tm as m=some r:=by
 unfold mX.call at h ⊢;split at h
 ·cases h
 ·rename_i hn;rw[if_neg hn];split at h
  ·rename_i e;rw[eF hc hl e];simp only;split at h
   ·split at h
    ·split at h
     ·rename_i e2;rw[eF hc hl e2];exact h
     ·cases h
    ·cases h
   ·cases h
  ·cases h
variable (da:MW) (al:vN)
theorem Dd:∀k,lO (jc da al k).call (jc da al (k+1)).call∧sy (jc da al k).loop (jc da al (k+1)).loop
 |0=>⟨fun _ _ _ _ h=>by simp[jc] at h,fun _ _ _ _ h=>by simp[jc] at h⟩
 |k+1=>by
  obtain⟨h1,h2⟩:=Dd k;refine⟨fun c as m r h=>?_,fun hd b st r h=>?_⟩
  ·rw[jc] at h ⊢;simp only at h ⊢;split at h
   ·split at h
    ·exact h
    ·split at h
     ·exact wJ h1 h2 h
     ·cases h
   ·split at h
    ·split at h
     ·exact xH h1 h2 h
     ·cases h
    ·cases h
  ·rw[jc] at h ⊢;simp only at h ⊢;split at h
   ·cases h
   ·split at h
    ·rename_i e;rw[eF h1 h2 e];exact h2 _ _ _ _ h
    ·rename_i hn;rw[eF h1 h2 h];split
     ·rename_i e;cases e;exact (hn _ h).elim
     ·rfl
theorem iV {k k':Nat}(h:k≤k'):lO (jc da al k).call (jc da al k').call∧sy (jc da al k).loop (jc da al k').loop:=by
 induction h with
 |refl=>exact⟨fun _ _ _ _ h=>h,fun _ _ _ _ h=>h⟩
 |step _ ih =>obtain⟨h1,h2⟩:=Dd da al _;exact⟨fun _ _ _ _ h=>h1 _ _ _ _ (ih.1 _ _ _ _ h),fun _ _ _ _ h=>h2 _ _ _ _ (ih.2 _ _ _ _ h)⟩
noncomputable def fR:bW:=fun c as m=>if h:∃r,∃k,(jc da al k).call c as m=some r then some h.choose else none
noncomputable def g9:kH:=fun hd b st=>if h:∃r,∃k,(jc da al k).loop hd b st=some r then some h.choose else none
variable {da al}
theorem jF {c:Callee}{as:List IV}{m:IM}{r:IV×IM}:fR da al c as m=some r↔∃k,(jc da al k).call c as m=some r:=by
 have uniq:∀{r r' k k'},(jc da al k).call c as m=some r→(jc da al k').call c as m=some r'→r=r':=by intro r r' k k' h h';have h1:=(iV da al (Nat.le_max_left k k')).1 _ _ _ _ h;have h2:=(iV da al (Nat.le_max_right k k')).1 _ _ _ _ h';rw[h1] at h2;exact Option.some.inj h2
 unfold fR;constructor
 ·intro h;split at h
  ·rename_i hx
   cases h
   exact hx.choose_spec
  ·cases h
 ·rintro ⟨k,h⟩;have hx:∃r,∃k,(jc da al k).call c as m=some r:=⟨r,k,h⟩
  rw[dif_pos hx];obtain⟨k',h'⟩:=hx.choose_spec;rw[uniq h' h]
theorem pD {hd:Head}{b:aq}{st:St}{r:Ex×St}:g9 da al hd b st=some r↔∃k,(jc da al k).loop hd b st=some r:=by
 have uniq:∀{r r' k k'},(jc da al k).loop hd b st=some r→(jc da al k').loop hd b st=some r'→r=r':=by intro r r' k k' h h';have h1:=(iV da al (Nat.le_max_left k k')).2 _ _ _ _ h;have h2:=(iV da al (Nat.le_max_right k k')).2 _ _ _ _ h';rw[h1] at h2;exact Option.some.inj h2
 unfold g9;constructor
 ·intro h;split at h
  ·rename_i hx
   cases h
   exact hx.choose_spec
  ·cases h
 ·rintro ⟨k,h⟩;have hx:∃r,∃k,(jc da al k).loop hd b st=some r:=⟨r,k,h⟩
  rw[dif_pos hx];obtain⟨k',h'⟩:=hx.choose_spec;rw[uniq h' h]
theorem rr (k:Nat):lO (jc da al k).call (fR da al):=fun _ _ _ _ h=>jF.2 ⟨k,h⟩
theorem oK (k:Nat):sy (jc da al k).loop (g9 da al):=fun _ _ _ _ h=>pD.2 ⟨k,h⟩
theorem sE {st:St}{f:Callee}{as:List IV}{hs:List Arg}{r:IV×cV×St}(h:dC (fR da al) st f as hs=some r):∃k,dC (jc da al k).call st f as hs=some r:=by
 unfold dC at h;split at h
 ·rename_i q hh e1 e2;split at h
  ·cases h
  ·rename_i m em;split at h
   ·cases h
   ·rename_i v m' ec;obtain⟨k,hk⟩:=jF.1 ec;refine⟨k,?_⟩;simp only[dC,e1,e2,em,hk];exact h
 ·cases h
theorem Rv {st:St}{k:IK}{r:IV×cV×St}(h:k.run (fR da al) st=some r):∃n,k.run (jc da al n).call st=some r:=by
 cases k with
 |aj f as hs =>
  simp only[IK.run] at h ⊢;split at h
  ·exact sE h
  ·cases h
 |fH g as hs =>
  simp only[IK.run] at h ⊢;split at h
  ·split at h
   ·exact sE h
   ·exact sE h
   ·cases h
  ·cases h
 |_=>exact⟨0,h⟩
theorem Da {st:St}{o:dh}{r:St}(h:o.fF (fR da al) st=some r):∃n,o.fF (jc da al n).call st=some r:=by
 unfold dh.fF at h ⊢;split at h
 ·split at h
  ·rename_i e;obtain⟨n,hn⟩:=Rv e;exact⟨n,by rw[hn];exact h⟩
  ·cases h
 ·exact⟨0,h⟩
 ·cases h
theorem RX {st:St}{o:dh}{r:St}(h:o.run (fR da al) st=some r):∃n,o.run (jc da al n).call st=some r:=by
 unfold dh.run at h ⊢;split at h
 ·split at h
  ·exact Da h
  ·cases h
 ·exact Da h
theorem A8:∀{l:List dh}{st r:St},bm (fR da al) l st=some r→∃n,bm (jc da al n).call l st=some r
 |[],_,_,h=>⟨0,h⟩
 |o::l,st,r,h=>by
  simp only[bm] at h;split at h
  ·rename_i e;obtain⟨n1,h1⟩:=RX e;obtain⟨n2,h2⟩:=A8 h;refine⟨max n1 n2,?_⟩;simp only[bm];rw[Gn (iV da al (Nat.le_max_left n1 n2)).1 h1];exact rT (iV da al (Nat.le_max_right n1 n2)).1 h2
  ·cases h
theorem ik:∀{x:aq}{st:St}{r:Ex×St},x.run (fR da al) (g9 da al) st=some r→∃n,x.run (jc da al n).call (jc da al n).loop st=some r
 |.skip,_,_,h=>⟨0,h⟩
 |.ops is,st,r,h=>by
  simp only[aq.run] at h ⊢;split at h
  ·rename_i e;obtain⟨n,hn⟩:=A8 e;exact⟨n,by rw[hn];exact h⟩
  ·cases h
 |.draw is _,st,r,h=>by
  simp only[aq.run] at h ⊢;split at h
  ·split at h
   ·rename_i e;obtain⟨n,hn⟩:=A8 e;exact⟨n,by rw[hn];exact h⟩
   ·cases h
  ·cases h
 |.seq a b,st,r,h=>by
  simp only[aq.run] at h ⊢;split at h
  ·rename_i e;obtain⟨n1,h1⟩:=ik e;obtain⟨n2,h2⟩:=ik h;refine⟨max n1 n2,?_⟩;rw[eF (iV da al (Nat.le_max_left n1 n2)).1 (iV da al (Nat.le_max_left n1 n2)).2 h1];exact eF (iV da al (Nat.le_max_right n1 n2)).1 (iV da al (Nat.le_max_right n1 n2)).2 h2
  ·rename_i hn;obtain⟨n1,h1⟩:=ik h;refine⟨n1,?_⟩;rw[h1];split
   ·rename_i e;cases e;exact (hn _ h).elim
   ·rfl
 |.cond d a b,st,r,h=>by
  simp only[aq.run] at h ⊢;split at h
  ·exact ik h
  ·exact ik h
  ·cases h
 |.block id b,st,r,h=>by
  simp only[aq.run] at h ⊢;split at h
  ·rename_i e;obtain⟨n,hn⟩:=ik e;exact⟨n,by rw[hn];exact h⟩
  ·rename_i hn;obtain⟨n1,h1⟩:=ik h;refine⟨n1,?_⟩;rw[h1];split
   ·rename_i e;cases e;exact (hn _ _ h).elim
   ·rfl
 |.loop hd b,st,r,h=>pD.1 (by simpa only[aq.run] using h)
 |.kv g fn site,st,r,h=>by
  simp only[aq.run] at h ⊢;split at h
  ·split at h
   ·split at h
    ·rename_i e;obtain⟨n,hn⟩:=jF.1 e;exact⟨n,by rw[hn];exact h⟩
    ·cases h
   ·cases h
  ·cases h
 |.exit _,_,_,h=>⟨0,h⟩
 |.ret,_,_,h=>⟨0,h⟩
theorem Ht {fn:dJ}{as:List IV}{m:IM}{r:IV×IM}(h:fn.call (fR da al) (g9 da al) as m=some r):∃n,fn.call (jc da al n).call (jc da al n).loop as m=some r:=by
 unfold dJ.call at h ⊢;split at h
 ·cases h
 ·rename_i hn;simp only[if_neg hn];split at h
  ·rename_i e;obtain⟨n,hn'⟩:=ik e;exact⟨n,by rw[hn'];exact h⟩
  ·cases h
theorem HY {rn:mX}{id:Nat}{tm:Env}{as:List IV}{m:IM}{r:IV×IM}(h:rn.call (fR da al) (g9 da al) id tm as m=some r):∃n,rn.call (jc da al n).call (jc da al n).loop id tm as m=some r:=by
 unfold mX.call at h ⊢;split at h
 ·cases h
 ·rename_i hn;simp only[if_neg hn];split at h
  ·rename_i e;obtain⟨n1,h1⟩:=ik e;split at h
   ·rename_i e0;split at h
    ·rename_i e1;split at h
     ·rename_i e2;obtain⟨n2,h2⟩:=ik e2;refine⟨max n1 n2,?_⟩;rw[eF (iV da al (Nat.le_max_left n1 n2)).1 (iV da al (Nat.le_max_left n1 n2)).2 h1];simp only[e0,e1];rw[eF (iV da al (Nat.le_max_right n1 n2)).1 (iV da al (Nat.le_max_right n1 n2)).2 h2];exact h
     ·cases h
    ·cases h
   ·cases h
  ·cases h
theorem jv {f:FuncId}{p:List IV→Option IV}(hp:al f=some p) (as:List IV) (m:IM):fR da al (.f f) as m=(p as).map (·,m):=by
 ext r;rw[jF];constructor
 ·rintro ⟨k,h⟩
  cases k with
  |zero=>simp[jc] at h
  |succ k=>rw[jc] at h;simp only[hp] at h;exact h
 ·intro h;exact⟨1,by rw[jc];simp only[hp];exact h⟩
theorem dd {f:FuncId}{fn:dJ}(hp:al f=none) (hf:da.fns f=some fn) (as:List IV) (m:IM):fR da al (.f f) as m=fn.call (fR da al) (g9 da al) as m:=by
 ext r;rw[jF];constructor
 ·rintro ⟨k,h⟩
  cases k with
  |zero=>simp[jc] at h
  |succ k=>rw[jc] at h;simp only[hp,hf] at h;exact wJ (rr k) (oK k) h
 ·intro h;obtain⟨k,h⟩:=Ht h;exact⟨k+1,by rw[jc];simp only[hp,hf];exact h⟩
theorem Nl {id:Nat}{m:IM}{bz fn site:Nat}{tm:Env}{j:Nat}{r:mX}(hm:m.get id=.loop bz fn site tm j) (hr:da.EW fn site=some r) (as:List IV) :
  fR da al (.y id) as m=r.call (fR da al) (g9 da al) id tm as m:=by
 ext q;rw[jF];constructor
 ·rintro ⟨k,h⟩
  cases k with
  |zero=>simp[jc] at h
  |succ k=>rw[jc] at h;simp only[hm,hr] at h;exact xH (rr k) (oK k) h
 ·intro h;obtain⟨k,h⟩:=HY h;exact⟨k+1,by rw[jc];simp only[hm,hr];exact h⟩
theorem Lq (hd:Head) (b:aq) (st:St):g9 da al hd b st=match st.head hd with
  |none=>none
  |some st=>match b.run (fR da al) (g9 da al) st with
   |some (.normal,st)=>g9 da al hd b st
   |r=>r:=by
 ext q;rw[pD];constructor
 ·rintro ⟨k,h⟩
  cases k with
  |zero=>simp[jc] at h
  |succ k =>
   rw[jc] at h;simp only at h;split at h
   ·cases h
   ·rename_i s1 e1;rw[e1];simp only;split at h
    ·rename_i e;rw[eF (rr k) (oK k) e];exact oK k _ _ _ _ h
    ·rename_i hn;rw[eF (rr k) (oK k) h];split
     ·rename_i e;cases e;exact (hn _ h).elim
     ·rfl
 ·intro h;split at h
  ·cases h
  ·rename_i s1 e1;split at h
   ·rename_i s2 e;obtain⟨n1,h1⟩:=ik e;obtain⟨n2,h2⟩:=pD.1 h;refine⟨max n1 n2+1,?_⟩;rw[jc];simp only[e1];rw[eF (iV da al (Nat.le_max_left n1 n2)).1 (iV da al (Nat.le_max_left n1 n2)).2 h1];exact (iV da al (Nat.le_max_right n1 n2)).2 _ _ _ _ h2
   ·rename_i hn;obtain⟨n1,h1⟩:=ik h;refine⟨n1+1,?_⟩;rw[jc];simp only[e1,h1];split
    ·rename_i e;cases e;exact (hn _ h).elim
    ·rfl
variable (da al)
noncomputable def lc (hd:Head) (b:aq):Option St→Option (Ex×St)
 |none=>none
 |some st=>match b.run (fR da al) (g9 da al) st with
  |some (.normal,st)=>g9 da al hd b st
  |r=>r
variable {da al}
theorem bY (hd:Head) (b:aq) (st:St):g9 da al hd b st=lc da al hd b (st.head hd):=by
 rw[Lq]
 cases st.head hd with
 |none=>rfl
 |some st=>rfl
theorem eG (hd:Head) (b:aq) (st:St):lc da al hd b (some st)=match b.run (fR da al) (g9 da al) st with
  |some (.normal,st)=>lc da al hd b (st.head hd)
  |r=>r:=by
 have:lc da al hd b (some st)=match b.run (fR da al) (g9 da al) st with
  |some (.normal,st)=>g9 da al hd b st
  |r=>r:=rfl
 rw[this]
 cases b.run (fR da al) (g9 da al) st with
 |none=>rfl
 |some r =>
  obtain⟨e,st'⟩:=r
  cases e with
  |normal=>exact bY hd b st'
  |exit i=>rfl
  |ret=>rfl
end Go.Idl
namespace Go.Idl
open Go.RowKit
variable {X:Ctx}{G:Gh}{w w':World}
def I4 (X:Ctx) (f:FuncId) (p:List IV→Option IV):Prop:=∀args v,p args=some v→(∀id,IV.nT id∉args) ∧
 ∀G m w rs,MR X G m w→WF X G w→(∀k,G.lb k=none)→c9 G args rs→Reach X f rs w (mV X G w m v)
theorem B0 {m : IM} {v : IV} {r : Value} (hm : MR X G m w) (hw : WF X G w) (hl : ∀ k, G.lb k = none) (hv : VR G v r) (hb : Below w.heap.size w w') : mV X G w m v r w' := by
  have hk : ∀ b, b < w.heap.size → w'.heap[b]? = w.heap[b]? := hb.block;have hbx : ∀ id b, G.bx id = some b → b < w.heap.size := fun id b e => hw.eY b (.inl ⟨id, e⟩);refine ⟨G, ⟨?_, ?_, hm.kY, hm.cd⟩, ?_, hv, ?_⟩
  · intro id hn;obtain ⟨b, ro, e1, e2, e3⟩ := hm.bx id hn;exact ⟨b, ro, e1, by rw [hk b (hbx id b e1)]; exact e2, e3⟩
  · intro id cs cp off sz e1 e2 b r e3 e4;rw [hb.cell (p := ⟨b, off, none⟩) (hbx id b e3)] at e4;exact hm.own id cs cp off sz e1 e2 b r e3 e4
  · have lt_imm : ∀ b o v, G.dB b o = some v → b < w.heap.size := fun b o v e => by
      have := hw.dB b o v e;rcases Nat.lt_or_ge b w.heap.size with h | h
      · exact h
      · simp [World.cell?, Array.getElem?_eq_none h] at this
    have lt_ow : ∀ b o l, G.ow b o = some l → b < w.heap.size := fun b o l e => by
      have := (hw.dR b o l e).1;rcases Nat.lt_or_ge b w.heap.size with h | h
      · exact h
      · simp [World.cell?, Array.getElem?_eq_none h] at this
    exact { dB := fun b o v e => by rw [hb.cell (p := ⟨b, o, none⟩) (lt_imm b o v e)]; exact hw.dB b o v e, inj := hw.inj, ja := hw.ja, fB := hw.fB,
            eY := fun b h => Nat.lt_of_lt_of_le (hw.eY b h) hb.size, ew := hw.ew, eU := hw.eU, fL := hw.fL,
            dR := fun b o l e => by rw [hb.cell (p := ⟨b, o, none⟩) (lt_ow b o l e), hb.frozen (p := ⟨b, o, none⟩) (lt_ow b o l e)]; exact hw.dR b o l e, iD := hw.iD, gj := Nat.le_trans hw.gj hb.size }
  · exact { os := hb.os, tape := hb.tape, output := hb.output, size := hb.size, dB := fun _ _ _ e => e, bx := fun _ _ e => e,
            other := fun b o e _ _ => by rw [hk b (gw e)]; exact e,
            cells := fun b c t f e _ => ⟨c, f, by rw [hk b (gw e)]; exact e, rfl, fun _ _ => rfl, .inl rfl⟩,
            eW := fun _ _ _ _ _ e => .inl e, fY := fun b o l _ e => by rw [e]; rfl, fh := fun _ _ q => q, cd := rfl, gj := rfl, gm := fun _ _ e => .inl e,
            loop := fun b L e => ⟨L, by rw [hk b (gw e)]; exact e⟩ }
theorem D0 {m:IM}{v:IV}{r:Value}(hm:MR X G m w) (hw:WF X G w) (hv:VR G v r):mV X G w m v r w:=⟨G,hm,hw,hv,Step.refl _ _⟩
theorem qL {f:FuncId}{p:List IV→Option IV}{e:Array Value→Sem Value}(hc:∀args w,(callFunc f args).run X.P w=((e args).run X.P w).andThen fun v w'=>.ok (.value v) w')
  (hp:∀args v,p args=some v→(∀id,IV.nT id∉args)∧∀G w rs,c9 G args rs→∃r,(e ⟨rs⟩).run X.P w=.ok r w∧VR G v r):I4 X f p:=by
 intro args v h;obtain⟨h1,h2⟩:=hp args v h;refine⟨h1,fun G m w rs hm hw hl ha=>?_⟩;obtain⟨r,e1,e2⟩:=h2 G w rs ha;exact .inr ⟨r,w,by rw[hc,e1];rfl,D0 hm hw e2⟩
theorem nr {f:FuncId}{p:List IV→Option IV}{fn:Func}(hf:X.P.funcs[f]?=some fn) (hb:fn.body.isNone=false) (hn:(fn.name == "runtime.NumGoroutine")=false)
  (hp:∀args v,p args=some v→(∀id,IV.nT id∉args)∧∀G w rs,c9 G args rs→Calls X.P f ⟨rs⟩ w fun e w'=>∃r,e=.returned r∧VR G v r∧Below w.heap.size w w'):I4 X f p:=by
 intro args v h;obtain⟨h1,h2⟩:=hp args v h;refine⟨h1,fun G m w rs hm hw hl ha=>.inl ⟨?_,callsIn_wide.2 ((h2 G w rs ha).mono fun e w' ⟨r,q1,q2,q3⟩=>⟨r,q1,B0 hm hw hl q2 q3⟩)⟩⟩;have hpr:(program).run X.P w=.ok X.P w:=rfl;have h1:fn.name ≠ "runtime.NumGoroutine" := by simpa using hn
 cases hbb:fn.body with
 |none=>rw[hbb] at hb;cases hb
 |some c=>simp[callFunc,hpr,hf,h1,hbb]
def jV (c:UInt8):List UInt8→Nat→Int
 |[],_=>-1
 |b::r,i=>match b==c with
  |true=>i
  |false=>jV c r (i+1)
theorem AF (c:UInt8):∀(l:List UInt8) (k:Nat),jV c l k=if Lib.indexByte l c=-1 then -1 else Lib.indexByte l c+k
 |[],k=>by simp[jV,Lib.indexByte]
 |b::l,k=>by
  simp only[jV,Lib.indexByte];by_cases h:(b==c)=true
  ·simp[h]
  ·have h':(b==c)=false:=by simpa using h
   simp only[h',Bool.false_eq_true,if_false];rw[AF c l (k+1)];by_cases h2:Lib.indexByte l c=-1
   ·simp[h2]
   ·have:=Lib.indexByte_ge l c;have h3:¬Lib.indexByte l c+1=-1:=by omega
    simp[h2,h3];omega
def Jz (c:UInt8):List UInt8→Nat
 |[]=>0
 |b::r=>match b==c with
  |true=>Jz c r+1
  |false=>Jz c r
theorem FW (c:UInt8):∀l:List UInt8,Jz c l=Lib.countByte l c
 |[]=>rfl
 |b::l=>by
  have:=FW c l;simp only[Jz,Lib.countByte,List.count_cons] at this ⊢
  cases h:b==c<;>simp[this]
def uj:List UInt8→List UInt8→Int
 |[],[]=>0
 |[],_::_=>-1
 |_::_,[]=>1
 |a::x,b::y=>match Nat.blt a.toNat b.toNat with
  |true=>-1
  |false=>match Nat.blt b.toNat a.toNat with
   |true=>1
   |false=>uj x y
theorem FV:∀a b:List UInt8,uj a b=Lib.compareBytes a b
 |[],[]=>rfl
 |[],_::_=>rfl
 |_::_,[]=>rfl
 |a::x,b::y=>by
  simp only[uj,Lib.compareBytes];by_cases h:a<b
  ·have:Nat.blt a.toNat b.toNat=true:=by rw[Nat.blt_eq];exact h
   simp[this,h]
  ·have h1:Nat.blt a.toNat b.toNat=false:=by
    cases q:Nat.blt a.toNat b.toNat with
    |false=>rfl
    |true=>rw[Nat.blt_eq] at q;exact absurd q h
   by_cases h2:b<a
   ·have:Nat.blt b.toNat a.toNat=true:=by rw[Nat.blt_eq];exact h2
    simp[h1,this,h,h2]
   ·have h3:Nat.blt b.toNat a.toNat=false:=by
     cases q:Nat.blt b.toNat a.toNat with
     |false=>rfl
     |true=>rw[Nat.blt_eq] at q;exact absurd q h2
    simp[h1,h3,h,h2,FV x y]
def mh:List IV→Option IV
 |[.str s,.int .u8 c]=>some (.int .i64 (jV c.toNat.toUInt8 s 0))
 |_=>none
def qK:List IV→Option IV
 |[.str s,.int .u8 c]=>some (.int .i64 (Jz c.toNat.toUInt8 s))
 |_=>none
def rU:List IV→Option IV
 |[.str a,.str b]=>some (.int .i64 (uj a b))
 |_=>none
theorem mI {a b:IV}{rs:List Value}(h:c9 G [a,b] rs):∃x y,rs=[x,y]∧VR G a x∧VR G b y:=by obtain⟨x,r1,rfl,h1,h⟩:=h.jw;obtain⟨y,r2,rfl,h2,h⟩:=h.jw;rw[h.sG];exact⟨x,y,rfl,h1,h2⟩
theorem yl {f:FuncId}(hc:∀args w,(callFunc f args).run X.P w=((Extern.BytealgIndexByte.indexByte args).run X.P w).andThen fun v w'=>.ok (.value v) w'):I4 X f mh:=by
 refine qL hc fun args v h=>?_;unfold mh at h;split at h
 ·rename_i s c
  cases h
  refine⟨by simp,fun G w rs ha=>?_⟩;obtain⟨x,y,rfl,h1,h2⟩:=mI ha
  cases h1;cases h2
  refine⟨_,Lib.run_indexByteString _ _ _,?_⟩;have e:=AF c.toNat.toUInt8 s 0;have:jV c.toNat.toUInt8 s 0=Lib.indexByte s c.toNat.toUInt8:=by
   rw[e];split
   ·rename_i q;exact q.symm
   ·simp
  rw[this];exact .int _ _
 ·cases h
theorem yk {f:FuncId}(hc:∀args w,(callFunc f args).run X.P w=((Extern.BytealgCount.count args).run X.P w).andThen fun v w'=>.ok (.value v) w'):I4 X f qK:=by
 refine qL hc fun args v h=>?_;unfold qK at h;split at h
 ·rename_i s c
  cases h
  refine⟨by simp,fun G w rs ha=>?_⟩;obtain⟨x,y,rfl,h1,h2⟩:=mI ha
  cases h1;cases h2
  refine⟨_,Lib.run_countString _ _ _,?_⟩;rw[FW];exact .int _ _
 ·cases h
theorem C0 {f:FuncId}(hc:∀args w,(callFunc f args).run X.P w=((Extern.BytealgCompare.compare args).run X.P w).andThen fun v w'=>.ok (.value v) w'):I4 X f rU:=by
 refine qL hc fun args v h=>?_;unfold rU at h;split at h
 ·rename_i a b
  cases h
  refine⟨by simp,fun G w rs ha=>?_⟩;obtain⟨x,y,rfl,h1,h2⟩:=mI ha
  cases h1;cases h2
  refine⟨_,Lib.run_compareString _ _ _,?_⟩;rw[FV];exact .int _ _
 ·cases h
def pS (s:List UInt8):Nat→List UInt8
 |0=>[]
 |n+1=>s++pS s n
def rW:List IV→Option IV
 |[.str s,.int .i64 n]=>match decide (0≤n)&&Nat.ble n.toNat 9223372036854775807&&Nat.ble (s.length*n.toNat) 140737488355328 with
  |true=>some (.str (pS s n.toNat))
  |false=>none
 |_=>none
def jQ:List UInt8→Bool
 |[]=>true
 |b::r=>Nat.blt b.toNat 128&&jQ r
theorem om:∀{l:List UInt8},jQ l=true→∀(j:Nat) b,l[j]?=some b→b.toNat<128
 |[],_,j,b,h=>by simp at h
 |c::l,h,j,b,hb=>by
  simp only[jQ,Bool.and_eq_true,Nat.blt_eq] at h
  cases j with
  |zero=>simp only[List.getElem?_cons_zero,Option.some.injEq] at hb;subst hb;exact h.1
  |succ j=>exact om h.2 j b (by simpa using hb)
def yg (c:UInt8):List UInt8→Bool
 |[]=>false
 |b::r=>Nat.beq b.toNat c.toNat||yg c r
def kD (cs:List UInt8):List UInt8→Nat→Int
 |[],_=>-1
 |b::r,i=>match yg b cs with
  |true=>i
  |false=>kD cs r (i+1)
def np:List IV→Option IV
 |[.str s,.str cs]=>match jQ s&&jQ cs&&Nat.blt s.length 4294967281&&Nat.blt cs.length 4294967281 with
  |true=>some (.int .i64 (kD cs s 0))
  |false=>none
 |_=>none
theorem Gy (s:List UInt8):∀n,pS s n=Lib.repeatL s n
 |0=>rfl
 |n+1=>by simp[pS,Lib.repeatL,Gy s n]
theorem EN {f:FuncId}{fn:Func}(hf:X.P.funcs[f]?=some fn) (hb:fn.body.isNone=false) (hn:(fn.name == "runtime.NumGoroutine")=false)
  (hc:∀(s:ByteArray) (c:Nat) (w:World),c≤9223372036854775807→s.size*c≤140737488355328 →
   Calls X.P f #[.string s,.int .i64 c] w fun e w'=>e=.returned (.string ⟨(Lib.repeatL s.data.toList c).toArray⟩)∧Below w.heap.size w w'):I4 X f rW:=by
 refine nr hf hb hn fun args v h=>?_;unfold rW at h;split at h
 ·rename_i s n;split at h
  ·rename_i hcond
   cases h
   simp only[Bool.and_eq_true,decide_eq_true_eq] at hcond;obtain⟨⟨h0,h1⟩,h2⟩:=hcond;refine⟨by simp,fun G w rs ha=>?_⟩;obtain⟨x,y,rfl,k1,k2⟩:=mI ha
   cases k1;cases k2
   have hn:n=(n.toNat:Int):=by omega
   rw[hn];refine (hc ⟨⟨s⟩⟩ n.toNat w (Nat.le_of_ble_eq_true h1) (Nat.le_of_ble_eq_true h2)).mono fun e w' ⟨q1,q2⟩=>⟨_,q1,?_,q2⟩
   rw[Int.toNat_natCast,Gy];exact .str _
  ·cases h
 ·cases h
theorem uY (c:UInt8):∀l:List UInt8,yg c l=l.contains c
 |[]=>rfl
 |b::l=>by
  rw[yg,List.contains_cons,uY c l];congr 1;by_cases h:c=b
  ·subst h;simp
  ·have:b.toNat≠c.toNat:=fun e=>h (UInt8.toNat_inj.1 e.symm);have hb:Nat.beq b.toNat c.toNat=false:=by
    cases q:Nat.beq b.toNat c.toNat with
    |false=>rfl
    |true=>exact absurd (Nat.eq_of_beq_eq_true q) this
   rw[hb];simp[h]
theorem wW (cs:List UInt8):∀(l:List UInt8) (k:Nat),kD cs l k=if Lib.indexAny l cs=-1 then -1 else Lib.indexAny l cs+k
 |[],k=>by simp[kD,Lib.indexAny]
 |b::l,k=>by
  simp only[kD,Lib.indexAny];rw[uY];by_cases h:cs.contains b=true
  ·simp only[h,if_true];simp
  ·have h':cs.contains b=false:=by simpa using h
   simp only[h',Bool.false_eq_true,if_false];rw[wW cs l (k+1)];by_cases h2:Lib.indexAny l cs=-1
   ·simp[h2]
   ·have:=Lib.indexAny_ge cs l;have h3:¬Lib.indexAny l cs+1=-1:=by omega
    simp[h2,h3];omega
theorem Bd {f:FuncId}{fn:Func}(hf:X.P.funcs[f]?=some fn) (hb:fn.body.isNone=false) (hn:(fn.name == "runtime.NumGoroutine")=false)
  (hc:∀(s chars:ByteArray) (w:World),s.size<4294967281→chars.size<4294967281→(∀(j:Nat) b,s.data.toList[j]?=some b→b.toNat<128)→(∀(j:Nat) b,chars.data.toList[j]?=some b→b.toNat<128) →
   Calls X.P f #[.string s,.string chars] w fun e w'=>e=.returned (.int .i64 (Lib.indexAny s.data.toList chars.data.toList))∧Below w.heap.size w w'):I4 X f np:=by
 refine nr hf hb hn fun args v h=>?_;unfold np at h;split at h
 ·rename_i s cs;split at h
  ·rename_i hcond
   cases h
   simp only[Bool.and_eq_true,Nat.blt_eq] at hcond;obtain⟨⟨⟨h1,h2⟩,h3⟩,h4⟩:=hcond;refine⟨by simp,fun G w rs ha=>?_⟩;obtain⟨x,y,rfl,k1,k2⟩:=mI ha
   cases k1;cases k2
   refine (hc ⟨⟨s⟩⟩ ⟨⟨cs⟩⟩ w h3 h4 (om h1) (om h2)).mono fun e w' ⟨q1,q2⟩=>⟨_,q1,?_,q2⟩
   have e1:=wW cs s 0;have:kD cs s 0=Lib.indexAny s cs:=by
    rw[e1];split
    ·rename_i q;exact q.symm
    ·simp
   rw[this];exact .int _ _
  ·cases h
 ·cases h
def rV:List IV→Option IV
 |[.str s,.str [c]]=>some (.int .i64 (jV c s 0))
 |_=>none
theorem EM {f:FuncId}{fn:Func}(hf:X.P.funcs[f]?=some fn) (hb:fn.body.isNone=false) (hn:(fn.name == "runtime.NumGoroutine")=false)
  (hc:∀(s:ByteArray) (c:UInt8) (w:World),Calls X.P f #[.string s,.string ⟨#[c]⟩] w fun e w'=>e=.returned (.int .i64 (Lib.indexByte s.data.toList c))∧w'=w):I4 X f rV:=by
 refine nr hf hb hn fun args v h=>?_;unfold rV at h;split at h
 ·rename_i s c
  cases h
  refine⟨by simp,fun G w rs ha=>?_⟩;obtain⟨x,y,rfl,h1,h2⟩:=mI ha
  cases h1;cases h2
  have e:=AF c s 0;have e':jV c s 0=Lib.indexByte s c:=by
   rw[e];split
   ·rename_i q;exact q.symm
   ·simp
  refine (hc ⟨⟨s⟩⟩ c w).mono fun e w' ⟨q1,q2⟩=>⟨_,q1,?_,by subst q2;exact Below.refl _ _⟩
  rw[e'];exact .int _ _
 ·cases h
def MP (cs:List UInt8):List UInt8→List UInt8
 |[]=>[]
 |b::r=>match yg b cs with
  |true=>MP cs r
  |false=>b::r
def Ql (cs:List UInt8):List UInt8→List UInt8
 |[]=>[]
 |b::r=>match Ql cs r with
  |c::t=>b::c::t
  |[]=>match yg b cs with
   |true=>[]
   |false=>[b]
theorem Mj (cs:List UInt8):∀l:List UInt8,MP cs l=Lib.trimLeftS l cs
 |[]=>rfl
 |b::r=>by
  have:=Mj cs r;unfold Lib.trimLeftS at this ⊢;rw[MP,uY,List.dropWhile_cons]
  cases cs.contains b<;>simp[this]
theorem Mk (cs:List UInt8):∀l:List UInt8,Ql cs l=Lib.trimRightS l cs
 |[]=>rfl
 |b::r=>by
  have:=Mk cs r;unfold Lib.trimRightS at this ⊢;rw[Ql,uY,List.reverse_cons,List.dropWhile_append]
  cases h:r.reverse.dropWhile (cs.contains ·) with
  |nil =>
   rw[h,List.reverse_nil] at this;rw[this];show (match cs.contains b with | true=>[] | false=>[b])=(List.dropWhile (cs.contains ·) [b]).reverse;rw[List.dropWhile_cons]
   cases cs.contains b<;>rfl
  |cons x xs =>
   rw[h] at this;have hne:Ql cs r≠[]:=by rw[this];simp
   cases ht:Ql cs r with
   |nil=>exact absurd ht hne
   |cons c t =>rw[ht] at this;simp[this]
def nq:List IV→Option IV
 |[.str s,.str cs]=>match jQ cs&&Nat.blt cs.length 4294967281 with
  |true=>some (.str (MP cs s))
  |false=>none
 |_=>none
def mj:List IV→Option IV
 |[.str s,.str cs]=>match jQ cs&&Nat.blt cs.length 4294967281&&Nat.ble s.length 9223372036854775807 with
  |true=>some (.str (Ql cs s))
  |false=>none
 |_=>none
theorem Be {f:FuncId}{fn:Func}(hf:X.P.funcs[f]?=some fn) (hb:fn.body.isNone=false) (hn:(fn.name == "runtime.NumGoroutine")=false)
  (hc:∀(s cs:ByteArray) (w:World),cs.size<4294967281→(∀(j:Nat) b,cs.data.toList[j]?=some b→b.toNat<128) →
   Calls X.P f #[.string s,.string cs] w fun e w'=>e=.returned (.string ⟨(Lib.trimLeftS s.data.toList cs.data.toList).toArray⟩)∧Below w.heap.size w w'):I4 X f nq:=by
 refine nr hf hb hn fun args v h=>?_;unfold nq at h;split at h
 ·rename_i s cs;split at h
  ·rename_i hcond
   cases h
   simp only[Bool.and_eq_true,Nat.blt_eq] at hcond;refine⟨by simp,fun G w rs ha=>?_⟩;obtain⟨x,y,rfl,k1,k2⟩:=mI ha
   cases k1;cases k2
   refine (hc ⟨⟨s⟩⟩ ⟨⟨cs⟩⟩ w hcond.2 (om hcond.1)).mono fun e w' ⟨q1,q2⟩=>⟨_,q1,?_,q2⟩
   rw[Mj];exact .str _
  ·cases h
 ·cases h
theorem ym {f:FuncId}{fn:Func}(hf:X.P.funcs[f]?=some fn) (hb:fn.body.isNone=false) (hn:(fn.name == "runtime.NumGoroutine")=false)
  (hc:∀(s cs:ByteArray) (w:World),s.size≤9223372036854775807→cs.size<4294967281→(∀(j:Nat) b,cs.data.toList[j]?=some b→b.toNat<128) →
   Calls X.P f #[.string s,.string cs] w fun e w'=>e=.returned (.string ⟨(Lib.trimRightS s.data.toList cs.data.toList).toArray⟩)∧Below w.heap.size w w'):I4 X f mj:=by
 refine nr hf hb hn fun args v h=>?_;unfold mj at h;split at h
 ·rename_i s cs;split at h
  ·rename_i hcond
   cases h
   simp only[Bool.and_eq_true,Nat.blt_eq] at hcond;refine⟨by simp,fun G w rs ha=>?_⟩;obtain⟨x,y,rfl,k1,k2⟩:=mI ha
   cases k1;cases k2
   refine (hc ⟨⟨s⟩⟩ ⟨⟨cs⟩⟩ w (Nat.le_of_ble_eq_true hcond.2) hcond.1.2 (om hcond.1.1)).mono fun e w' ⟨q1,q2⟩=>⟨_,q1,?_,q2⟩
   rw[Mk];exact .str _
  ·cases h
 ·cases h
end Go.Idl
