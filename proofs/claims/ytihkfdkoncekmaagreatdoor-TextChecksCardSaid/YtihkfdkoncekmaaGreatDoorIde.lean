/- This text proves that a reckoned check of the code suffices, gives the equations of runs without a bound, and proves what the taken library functions return; it has no conditions. -/
import Derived.Test.YtihkfdkoncekmaaGreatDoorIdd
import Derived.Test.YtihkfdkoncekmaaGreatDoorIda
import Derived.Lib.Bytealg
import Derived.Lib.Repeat
import Derived.Lib.IndexAny
import Derived.Below
set_option linter.unusedSimpArgs false
set_option linter.unusedVariables false
namespace Go.Idl
mutual
def ckV:Nat→IV→Value→Bool
 |0,_,_=>false
 |n+1,x,v=>match x,v with
  |.bool b,.bool c=>b==c
  |.int k i,.int k' i'=>decide (k=k')&&decide (i=i')
  |.float k b,.float k' b'=>decide (k=k')&&Nat.beq b b'
  |.cplx k a b,.complex k' a' b'=>decide (k=k')&&Nat.beq a a'&&Nat.beq b b'
  |.str s,.string t=>decide (s=t.data.toList)
  |.nilPtr,.pointer none=>true
  |.nilSlice,.slice none 0 0=>true
  |.nilMap,.map none=>true
  |.nilFunc,.nilFunc=>true
  |.nilIface,.nilIface=>true
  |.func f [] [],.func (.func g) a b=>Nat.beq f g&&a.toList.isEmpty&&b.toList.isEmpty
  |.agg cs,.agg rc=>ze n cs rc.toList
  |.tup cs,.tuple rc=>ze n cs rc.toList
  |.iface t x,.iface u v=>Nat.beq t u&&ckV n x v
  |_,_=>false
def ze:Nat→List IV→List Value→Bool
 |0,_,_=>false
 |n+1,cs,rc=>match cs,rc with
  |[],[]=>true
  |x::xs,v::vs=>ckV n x v&&ze n xs vs
  |_,_=>false
end
theorem eR {i j:Nat}(h:Nat.beq i j=true):i=j:=Nat.eq_of_beq_eq_true h
mutual
theorem kH:∀(n:Nat) (x:IV) (v:Value),ckV n x v=true→∀G,VR G x v
 |0,_,_,h=>by simp[ckV] at h
 |n+1,x,v,h=>by
  intro G
  simp only[ckV] at h
  split at h
  ·simp only[beq_iff_eq] at h;subst h;exact .bool _
  ·simp only[Bool.and_eq_true,decide_eq_true_eq] at h;obtain⟨rfl,rfl⟩:=h;exact .int _ _
  ·simp only[Bool.and_eq_true,decide_eq_true_eq] at h;obtain⟨rfl,h⟩:=h;rw[eR h];exact .float _ _
  ·simp only[Bool.and_eq_true,decide_eq_true_eq] at h;obtain⟨⟨rfl,h1⟩,h2⟩:=h;rw[eR h1,eR h2];exact .cplx _ _ _
  ·rename_i s t
   simp only[decide_eq_true_eq] at h
   obtain⟨⟨l⟩⟩:=t
   simp only at h
   subst h
   exact .str _
  ·exact .nilPtr
  ·exact .nilSlice
  ·exact .nilMap
  ·exact .nilFunc
  ·exact .nilIface
  ·rename_i f g a b
   simp only[Bool.and_eq_true,List.isEmpty_iff] at h
   obtain⟨⟨h1,h2⟩,h3⟩:=h
   rw[eR h1]
   obtain⟨a⟩:=a
   obtain⟨b⟩:=b
   simp only at h2 h3
   subst h2;subst h3
   exact .func _ [] [] [] [] rfl rfl (fun i h=>absurd h (by simp)) (fun i h=>absurd h (by simp))
  ·rename_i cs rc
   obtain⟨rc⟩:=rc
   exact VR.agg' (ju n cs rc h G)
  ·rename_i cs rc
   obtain⟨rc⟩:=rc
   exact VR.tup' (ju n cs rc h G)
  ·simp only[Bool.and_eq_true] at h
   rw[eR h.1]
   exact .iface _ _ _ (kH n _ _ h.2 G)
  ·cases h
theorem ju:∀(n:Nat) (xs:List IV) (vs:List Value),ze n xs vs=true→∀G,VRs G xs vs
 |0,_,_,h=>by simp[ze] at h
 |n+1,xs,vs,h=>by
  intro G
  simp only[ze] at h
  split at h
  ·exact VRs.nil
  ·simp only[Bool.and_eq_true] at h
   exact VRs.cons (kH n _ _ h.1 G) (ju n _ _ h.2 G)
  ·cases h
end
def eqV:IV→IV→Bool
 |.bool b,.bool c=>b==c
 |.int k i,.int k' i'=>decide (k=k')&&decide (i=i')
 |.str s,.str t=>decide (s=t)
 |.nilPtr,.nilPtr=>true
 |.nilSlice,.nilSlice=>true
 |.func f [] [],.func g [] []=>Nat.beq f g
 |.nilFunc,.nilFunc=>true
 |_,_=>false
def Bt:List IV→List IV→Bool
 |[],[]=>true
 |x::xs,y::ys=>eqV x y&&Bt xs ys
 |_,_=>false
theorem BE {x y:IV}(h:eqV x y=true):x=y:=by
 unfold eqV at h
 split at h<;>first | rfl | (cases h;done) | skip
 ·simp only[beq_iff_eq] at h;rw[h]
 ·simp only[Bool.and_eq_true,decide_eq_true_eq] at h;obtain⟨rfl,rfl⟩:=h;rfl
 ·simp only[decide_eq_true_eq] at h;rw[h]
 ·rw[eR h]
theorem ri:∀{xs ys:List IV},Bt xs ys=true→xs=ys
 |[],[],_=>rfl
 |x::xs,y::ys,h=>by
  simp only[Bt,Bool.and_eq_true] at h
  rw[BE h.1,ri h.2]
 |[],_::_,h=>by simp[Bt] at h
 |_::_,[],h=>by simp[Bt] at h
section
variable (P:Program) (rows:Nat→Option (List IV))
def eE:Operand→Arg→Bool
 |.tmp i,.t j=>Nat.beq i j
 |.const v,.c x=>ckV 20000 x v
 |.global g,.c (.pI row 0)=>match rows g with
  |some r=>Bt r row
  |none=>false
 |.func f,.c (.func g [] [])=>Nat.beq f g
 |_,_=>false
def js:List Operand→List Arg→Bool
 |[],[]=>true
 |x::xs,a::as=>eE rows x a&&js xs as
 |_,_=>false
variable {rows}
theorem aY {x:Operand}{a:Arg}(h:eE rows x a=true):ArgR rows x a:=by
 unfold eE at h
 split at h
 ·rw[eR h];exact .tmp _
 ·exact .const _ _ (kH _ _ _ h)
 ·split at h
  ·rename_i r hr
   rw[←ri h]
   exact .glob _ _ hr
  ·cases h
 ·rw[eR h];exact .func _
 ·cases h
theorem gp:∀{xs:List Operand}{as:List Arg},js rows xs as=true→ArgsR rows xs as
 |[],[],_=>.nil
 |x::xs,a::as,h=>by
  simp only[js,Bool.and_eq_true] at h
  exact .cons (aY h.1) (gp h.2)
 |[],_::_,h=>by simp[js] at h
 |_::_,[],h=>by simp[js] at h
end
def Fx:TypeDesc→Bool
 |.struct _ | .array _ _=>true
 |_=>false
def jK (P:Program) (t:TypeId) (n:Nat) (agg:Bool):Bool :=
 match P.underlying t,P.info? t with
 |some d,some i=>Nat.beq i.size n&&(agg==Fx d)&&(agg||Nat.beq n 1)
 |_,_=>false
theorem dW {P:Program}{t:TypeId}{n:Nat}{agg:Bool}(h:jK P t n agg=true):∃d bytes,TyR P t d n bytes agg∧∃i,P.info? t=some i∧i.bytes=bytes:=by
 unfold jK at h
 split at h
 ·rename_i d i e1 e2
  simp only[Bool.and_eq_true,beq_iff_eq,Bool.or_eq_true] at h
  obtain⟨⟨h1,h2⟩,h3⟩:=h
  refine⟨d,i.bytes,⟨e1,⟨i,e2,eR h1,rfl⟩,by rw[h2];cases d<;>rfl,fun ha=>?_⟩,i,e2,rfl⟩
  rcases h3 with q | q
  ·rw[ha] at q;cases q
  ·exact eR q
 ·cases h
def kR (P:Program) (t:TypeId):Nat:=match P.info? t with | some i=>i.size | none=>0
def bytesOf (P:Program) (t:TypeId):Nat:=match P.info? t with | some i=>i.bytes | none=>0
def pc (P:Program) (t:TypeId):Bool:=match P.underlying t with | some d=>Fx d | none=>false
def sW (P:Program) (t:TypeId):Bool:=jK P t (kR P t) (pc P t)
def iT (P:Program) (t:TypeId) (zero:List IV):Bool :=
 match P.info? t with
 |some i=>match i.zero with
  |some v=>Nat.beq i.size zero.length&&ze 20000 zero v.cells.toList
  |none=>false
 |none=>false
theorem eP {P:Program}{t:TypeId}{zero:List IV}(h:iT P t zero=true):gk P t zero:=by
 unfold iT at h
 split at h
 ·rename_i i ei
  split at h
  ·rename_i v ev
   simp only[Bool.and_eq_true] at h
   have hv:=ju _ _ _ h.2
   exact⟨i,v,ei,ev,(hv ⟨fun _ _=>none,fun _=>none,fun _=>none,fun _ _=>none,fun _=>false,0⟩).1,eR h.1,hv⟩
  ·cases h
 ·cases h
def vS:EqD→TypeDesc→Bool
 |.bool,.bool=>true
 |.int,.int _=>true
 |.str,.string=>true
 |.float,.float _=>true
 |.ptr,.pointer _=>true
 |.slice,.slice _=>true
 |.func,.func ..=>true
 |.map,.map ..=>true
 |_,_=>false
theorem hH {e:EqD}{d:TypeDesc}(h:vS e d=true):gF e d:=by
 cases e<;>cases d<;>first | trivial | cases h
def E5:EqD→TypeDesc→Bool
 |.bool,.bool=>true
 |.int,.int _=>true
 |.str,.string=>true
 |_,_=>false
theorem oP {e:EqD}{d:TypeDesc}(h:E5 e d=true):g9 e d:=by
 cases e<;>cases d<;>first | trivial | cases h
def iH:List (Nat×Nat)→List (Nat×Nat)→Bool
 |[],[]=>true
 |(a,b)::r,(c,d)::s=>Nat.beq a c&&Nat.beq b d&&iH r s
 |_,_=>false
theorem gL:∀{r s:List (Nat×Nat)},iH r s=true→r=s
 |[],[],_=>rfl
 |(a,b)::r,(c,d)::s,h=>by
  simp only[iH,Bool.and_eq_true] at h
  rw[eR h.1.1,eR h.1.2,gL h.2]
 |[],_::_,h=>by simp[iH] at h
 |_::_,[],h=>by simp[iH] at h
def gU (P:Program) (t:TypeId):Bool:=match P.underlying t with | some .string=>true | _=>false
def si (P:Program) (t:TypeId):Option IntKind:=match P.underlying t with | some (.int k)=>some k | _=>none
def iM (P:Program) (t:TypeId):Option TypeId:=match P.underlying t with | some (.slice e)=>some e | _=>none
def mE (P:Program) (t:TypeId):Bool:=match P.underlying t with | some (.int .u8)=>true | _=>false
def uz (P:Program) (t:TypeId):Option (Nat×TypeId):=match P.underlying t with | some (.array n e)=>some (n,e) | _=>none
def kB (P:Program) (t:TypeId):Option (Array Field):=match P.underlying t with | some (.struct f)=>some f | _=>none
def KD (P:Program) (t:TypeId):Option TypeId:=match P.underlying t with | some (.pointer e)=>some e | _=>none
def C2 (P:Program) (t:TypeId):Option (TypeId×TypeId):=match P.underlying t with | some (.map k e)=>some (k,e) | _=>none
theorem f6 {P:Program}{t:TypeId}(h:gU P t=true):P.underlying t=some .string:=by
 unfold gU at h;split at h<;>first | assumption | cases h
theorem qw {P:Program}{t:TypeId}{k:IntKind}(h:si P t=some k):P.underlying t=some (.int k):=by
 unfold si at h;split at h<;>first | (cases h;assumption) | cases h
theorem f7 {P:Program}{t e:TypeId}(h:iM P t=some e):P.underlying t=some (.slice e):=by
 unfold iM at h;split at h<;>first | (cases h;assumption) | cases h
theorem nH {P:Program}{t:TypeId}(h:mE P t=true):P.underlying t=some (.int .u8):=by
 unfold mE at h;split at h<;>first | assumption | cases h
theorem lT {P:Program}{t:TypeId}{n:Nat}{e:TypeId}(h:uz P t=some (n,e)):P.underlying t=some (.array n e):=by
 unfold uz at h;split at h<;>first | (cases h;assumption) | cases h
theorem kF {P:Program}{t:TypeId}{f:Array Field}(h:kB P t=some f):P.underlying t=some (.struct f):=by
 unfold kB at h;split at h<;>first | (cases h;assumption) | cases h
theorem JW {P:Program}{t e:TypeId}(h:KD P t=some e):P.underlying t=some (.pointer e):=by
 unfold KD at h;split at h<;>first | (cases h;assumption) | cases h
theorem zf {P:Program}{t k e:TypeId}(h:C2 P t=some (k,e)):P.underlying t=some (.map k e):=by
 unfold C2 at h;split at h<;>first | (cases h;assumption) | cases h
def mA (P:Program):List Field→Bool
 |[]=>true
 |f::r=>sW P f.type&&mA P r
theorem mV {P:Program}:∀{l:List Field},mA P l=true→∀(j:Nat) f,l[j]?=some f→sW P f.type=true
 |[],_,j,f,h=>by simp at h
 |g::l,h,j,f,hf=>by
  simp only[mA,Bool.and_eq_true] at h
  cases j with
  |zero=>simp only[List.getElem?_cons_zero,Option.some.injEq] at hf;subst hf;exact h.1
  |succ j=>exact mV h.2 j f (by simpa using hf)
def rE (P:Program) (fields:List Field):List (Nat×Operand)→Option (List (Nat×Nat))
 |[]=>some []
 |p::r=>match fields[p.1]?,rE P fields r with
  |some f,some l=>some ((f.offset,kR P f.type)::l)
  |_,_=>none
theorem mM {P:Program}{fields:Array Field}:∀{ps:List (Nat×Operand)}{l:List (Nat×Nat)},rE P fields.toList ps=some l →
  l=ps.map (fun p=>(((fields[p.1]?).map (·.offset)).getD 0,(((fields[p.1]?).map fun f=>kR P f.type).getD 0)))∧∀p∈ps,p.1<fields.size
 |[],l,h=>by simp only[rE,Option.some.injEq] at h;subst h;simp
 |p::r,l,h=>by
  simp only[rE] at h
  split at h
  ·rename_i f l' e1 e2
   simp only[Option.some.injEq] at h
   subst h
   obtain⟨h1,h2⟩:=mM e2
   have e1':fields[p.1]?=some f:=by simpa using e1
   refine⟨by rw[List.map_cons,←h1,e1'];rfl,fun q hq=>?_⟩
   rcases List.mem_cons.1 hq with rfl | hq
   ·exact (Array.getElem?_eq_some_iff.1 e1').1
   ·exact h2 q hq
  ·cases h
end Go.Idl
namespace Go.Idl
theorem qx {P:Program}{t:TypeId}{d:TypeDesc}{n:Nat}{agg:Bool}(hu:P.underlying t=some d) (h:jK P t n agg=true):∃bytes,TyR P t d n bytes agg∧bytesOf P t=bytes:=by
 obtain⟨d',bytes,ht,i,h1,h2⟩:=dW h
 have:=ht.und
 rw[hu] at this
 cases this
 exact⟨bytes,ht,by simp[bytesOf,h1,h2]⟩
theorem f8 {P:Program}{t:TypeId}(h:sW P t=true):∃d b,TyR P t d (kR P t) b (pc P t):=by
 obtain⟨d,b,ht,-⟩:=dW h
 exact⟨d,b,ht⟩
def when {α:Type}(b:Bool) (x:α):Option α:=match b with | true=>some x | false=>none
theorem dJ {α:Type}{b:Bool}{x y:α}(h:when b x=some y):b=true∧x=y:=by
 unfold when at h;split at h<;>first | (cases h;exact⟨rfl,rfl⟩) | cases h
def vR {α:Type}(o:Option α) (b:Bool):Bool:=o.isSome==b
def lq:Op→Option (Builtin×List Operand×List TypeId)
 |.call ⟨.builtin b,xs,ts⟩=>some (b,xs.toList,ts.toList)
 |_=>none
theorem iL {op:Op}{b:Builtin}{xs:List Operand}{ts:List TypeId}(h:lq op=some (b,xs,ts)):op=.call ⟨.builtin b,⟨xs⟩,⟨ts⟩⟩:=by
 unfold lq at h
 split at h
 ·rename_i b' xs' ts'
  obtain⟨xs'⟩:=xs'
  obtain⟨ts'⟩:=ts'
  cases h;rfl
 ·cases h
def nv (P:Program):List Field→List (Nat×EqD)→Bool
 |[],[]=>true
 |f::fs,(o,d)::plan=>!(f.name == "_")&&Nat.beq o f.offset&&(match P.underlying f.type with | some d'=>vS d d' | none=>false)&&jK P f.type (kR P f.type) false&&nv P fs plan
 |_,_=>false
theorem mU {P:Program}:∀{fs:List Field}{plan:List (Nat×EqD)},nv P fs plan=true→PlanR P fs plan
 |[],[],_=>.nil
 |f::fs,(o,d)::plan,h=>by
  simp only[nv,Bool.and_eq_true,Bool.not_eq_true'] at h
  obtain⟨⟨⟨⟨h1,h2⟩,h3⟩,h4⟩,h5⟩:=h
  rw[eR h2]
  split at h3
  ·rename_i d' e
   obtain⟨b,q,-⟩:=qx e h4
   exact .cons (by simpa using h1) q (hH h3) (mU h5)
  ·cases h3
 |[],_::_,h=>by simp[nv] at h
 |_::_,[],h=>by simp[nv] at h
def tS (ed:EqD):Nat→Nat→List (Nat×EqD)→Bool
 |_,0,[]=>true
 |i,n+1,(j,d)::r=>Nat.beq i j&&decide (ed=d)&&tS ed (i+1) n r
 |_,_,_=>false
theorem oM {ed:EqD}:∀{n i:Nat}{plan:List (Nat×EqD)},tS ed i n plan=true→plan=(List.range' i n).map fun i=>(i,ed)
 |0,i,[],_=>rfl
 |n+1,i,(j,d)::r,h=>by
  simp only[tS,Bool.and_eq_true,decide_eq_true_eq] at h
  obtain⟨⟨h1,h2⟩,h3⟩:=h
  rw[List.range'_succ,List.map_cons,←oM h3,←h2,eR h1]
 |0,i,_::_,h=>by simp[tS] at h
 |_+1,i,[],h=>by simp[tS] at h
def ckP (P:Program) (op:Op):POp→Option (List Operand)
 |.pick=>match op with | .pick c a b=>some [c,a,b] | _=>none
 |.build zero parts=>match op with
  |.build t ps=>match kB P t with
   |some fields=>match rE P fields.toList ps.toList with
    |some l=>when (iH parts l&&iT P t zero&&mA P fields.toList&&jK P t (kR P t) true) (ps.toList.map (·.2))
    |none=>none
   |none=>match uz P t with
    |some (_,e)=>when (iH parts (ps.toList.map fun p=>(p.1*kR P e,kR P e))&&iT P t zero&&sW P e&&jK P t (kR P t) true) (ps.toList.map (·.2))
    |none=>none
  |_=>none
 |.nilCheck=>match op with | .nilCheck x=>some [x] | _=>none
 |.bin o=>match op with | .binOp o' _ x y _=>when (decide (o'=o)) [x,y] | _=>none
 |.eq neg d=>match op with
  |.binOp o t x y _=>match P.underlying t with
   |some d'=>when ((if neg then decide (o=.neq) else decide (o=.eql))&&sW P t&&vS d d') [x,y]
   |none=>none
  |_=>none
 |.eqAgg neg plan=>match op with
  |.binOp o t x y _=>match kB P t with
   |some fields=>when ((if neg then decide (o=.neq) else decide (o=.eql)) && !P.stoodInHeld t && !P.eqGuardType P.depth t&&nv P fields.toList plan) [x,y]
   |none=>match uz P t,plan with
    |some (len,e),(_,ed)::_=>match P.underlying e with
     |some d=>when ((if neg then decide (o=.neq) else decide (o=.eql)) && !P.eqGuardType P.depth t&&vS ed d&&jK P e 1 false&&tS ed 0 len plan) [x,y]
     |none=>none
    |_,_=>none
  |_=>none
 |.un o=>match op with | .unOp o' _ x=>when (decide (o'=o)) [x] | _=>none
 |.convInt k=>match op with | .convert s d x=>when ((si P s).isSome&&decide (si P d=some k)) [x] | _=>none
 |.convStr=>match op with | .convert s d x=>when (gU P s&&gU P d) [x] | _=>none
 |.intStr=>match op with | .convert s d x=>when ((si P s).isSome&&gU P d) [x] | _=>none
 |.bytesStr=>match op with
  |.convert s d x=>match iM P s with
   |some e=>when (mE P e&&gU P d) [x]
   |none=>none
  |_=>none
 |.mkIface t=>match op with
  |.makeInterface t' x=>match P.underlying t' with
   |some d=>when (Nat.beq t t'&&(match d with | .interface _=>false | _=>true)) [x]
   |none=>none
  |_=>none
 |.mkFunc f n=>match op with
  |.makeFunc (.func f') first cap=>when (Nat.beq f f'&&Nat.beq n first.size) (first.toList++cap.toList)
  |_=>none
 |.fieldAddr off=>match op with
  |.fieldAddr t x i=>match kB P t with
   |some fields=>match fields[i]? with
    |some fd=>when (Nat.beq off fd.offset&&sW P fd.type && !Nat.beq (kR P fd.type) 0) [x]
    |none=>none
   |none=>none
  |_=>none
 |.field agg off n=>match op with
  |.field t x i=>match kB P t with
   |some fields=>match fields[i]? with
    |some fd=>when (Nat.beq off fd.offset&&jK P fd.type n agg) [x]
    |none=>none
   |none=>none
  |_=>none
 |.indexA len sz=>match op with
  |.indexAddr t x i=>match uz P t with
   |some (l,e)=>when (Nat.beq len l&&Nat.beq sz (kR P e)&&sW P e) [x,i]
   |none=>none
  |_=>none
 |.indexS sz=>match op with
  |.indexAddr t x i=>match iM P t with
   |some e=>when (Nat.beq sz (kR P e)&&sW P e) [x,i]
   |none=>none
  |_=>none
 |.idxArr len agg n=>match op with
  |.index t x i=>match uz P t with
   |some (l,e)=>when (Nat.beq len l&&jK P e n agg) [x,i]
   |none=>none
  |_=>none
 |.idxStr=>match op with | .index t x i=>when (gU P t) [x,i] | _=>none
 |.sliceS sz lo hi=>match op with
  |.slice t x l h none=>match iM P t with
   |some e=>when (Nat.beq sz (kR P e)&&sW P e&&vR l lo&&vR h hi) (x::gV l h)
   |none=>none
  |_=>none
 |.sliceStr lo hi=>match op with
  |.slice t x l h none=>when (gU P t&&vR l lo&&vR h hi) (x::gV l h)
  |_=>none
 |.sliceA len sz lo hi=>match op with
  |.slice t x l h none=>match uz P t with
   |some (n,e)=>when (Nat.beq len n&&Nat.beq sz (kR P e)&&sW P e&&vR l lo&&vR h hi) (x::gV l h)
   |none=>none
  |_=>none
 |.extract i=>match op with | .extract x j=>when (Nat.beq i j) [x] | _=>none
 |.lenStr=>match lq op with
  |some (.len,[x],[t])=>when (gU P t) [x]
  |_=>none
 |.lenSlice=>match lq op with
  |some (.len,[x],[t])=>when ((iM P t).isSome) [x]
  |_=>none
 |.lenArr n=>match lq op with
  |some (.len,[x],[t])=>match uz P t with
   |some (m,_)=>when (Nat.beq n m) [x]
   |none=>match KD P t with
    |some a=>match uz P a with
     |some (m,_)=>when (Nat.beq n m) [x]
     |none=>none
    |none=>none
  |_=>none
 |.min=>match lq op with | some (.min,xs,_)=>some xs | _=>none
 |.max=>match lq op with | some (.max,xs,_)=>some xs | _=>none
theorem Bo {P:Program}{op:Op}{po:POp}{xs:List Operand}(h:ckP P op po=some xs):PR P op po xs:=by
 unfold ckP at h
 split at h
 ·split at h<;>first | (cases h;exact .pick _ _ _) | cases h
 ·split at h
  ·rename_i zero parts _ t ps
   split at h
   ·rename_i fields e1
    split at h
    ·rename_i l e2
     obtain⟨g,e⟩:=dJ h;clear h;subst e;have h:=g
     simp only[Bool.and_eq_true] at h
     obtain⟨⟨⟨h1,h2⟩,h3⟩,h4⟩:=h
     obtain⟨b,ht,-⟩:=qx (kF e1) h4
     obtain⟨k1,k2⟩:=mM e2
     refine .build t ps zero parts _ b fields (fun j=>((fields[j]?).map fun f=>kR P f.type).getD 0) ht (eP h2) (fun j f hf=>?_) ((gL h1).trans k1) k2
     obtain⟨d,b',q⟩:=f8 (mV h3 j f (by simpa using hf))
     exact⟨d,b',_,by rw[hf];exact q⟩
    ·cases h
   ·split at h
    ·rename_i len e e2
     obtain⟨g,e⟩:=dJ h;clear h;subst e;have h:=g
     simp only[Bool.and_eq_true] at h
     obtain⟨⟨⟨h1,h2⟩,h3⟩,h4⟩:=h
     obtain⟨b,ht,-⟩:=qx (lT e2) h4
     obtain⟨d,b',q⟩:=f8 h3
     exact .buildA t ps zero parts _ b len e (kR P e) d b' _ ht (eP h2) q (gL h1)
    ·cases h
  ·cases h
 ·split at h<;>first | (cases h;exact .nilCheck _) | cases h
 ·split at h
  ·obtain⟨g,e⟩:=dJ h;clear h;subst e;have h:=g
   simp only[decide_eq_true_eq] at h
   subst h
   exact .bin _ _ _ _ _
  ·cases h
 ·split at h
  ·rename_i neg d _ o t x y u
   split at h
   ·rename_i d' e1
    obtain⟨g,e⟩:=dJ h;clear h;subst e;have h:=g
    simp only[Bool.and_eq_true] at h
    obtain⟨⟨h1,h2⟩,h3⟩:=h
    obtain⟨b,ht,-⟩:=qx e1 h2
    cases neg with
    |true=>simp only[if_true,decide_eq_true_eq] at h1;subst h1;exact .neq _ _ _ _ _ _ _ _ _ ht (hH h3)
    |false=>simp only[Bool.false_eq_true,if_false,decide_eq_true_eq] at h1;subst h1;exact .eql _ _ _ _ _ _ _ _ _ ht (hH h3)
   ·cases h
  ·cases h
 ·split at h
  ·rename_i neg plan _ o t x y u
   split at h
   ·rename_i fields e1
    obtain⟨g,e⟩:=dJ h;clear h;subst e;have h:=g
    simp only[Bool.and_eq_true,Bool.not_eq_true'] at h
    obtain⟨⟨⟨h1,h2⟩,h3⟩,h4⟩:=h
    refine .eqAgg neg o t x y u fields plan ?_ (kF e1) h2 h3 (mU h4)
    cases neg<;>simpa using h1
   ·split at h
    ·rename_i len e j ed r e2
     split at h
     ·rename_i d e3
      obtain⟨g,e'⟩:=dJ h;clear h;subst e';have h:=g
      simp only[Bool.and_eq_true,Bool.not_eq_true'] at h
      obtain⟨⟨⟨⟨h1,h2⟩,h3⟩,h4⟩,h5⟩:=h
      obtain⟨b,q,-⟩:=qx e3 h4
      refine .eqArr neg o t x y u len e d b ed _ ?_ (lT e2) q (hH h3) h2 (by rw[List.range_eq_range'];exact oM h5)
      cases neg<;>simpa using h1
     ·cases h
    ·cases h
  ·cases h
 ·split at h
  ·obtain⟨g,e⟩:=dJ h;clear h;subst e;have h:=g
   simp only[decide_eq_true_eq] at h
   subst h
   exact .un _ _ _
  ·cases h
 ·split at h
  ·obtain⟨g,e⟩:=dJ h;clear h;subst e;have h:=g
   simp only[Bool.and_eq_true,decide_eq_true_eq,Option.isSome_iff_exists] at h
   obtain⟨⟨k,h1⟩,h2⟩:=h
   exact .convInt _ _ _ _ ⟨k,qw h1⟩ (qw h2)
  ·cases h
 ·split at h
  ·obtain⟨g,e⟩:=dJ h;clear h;subst e;have h:=g
   simp only[Bool.and_eq_true] at h
   exact .convStr _ _ _ (f6 h.1) (f6 h.2)
  ·cases h
 ·split at h
  ·obtain⟨g,e⟩:=dJ h;clear h;subst e;have h:=g
   simp only[Bool.and_eq_true,Option.isSome_iff_exists] at h
   obtain⟨⟨k,h1⟩,h2⟩:=h
   exact .intStr _ _ _ ⟨k,qw h1⟩ (f6 h2)
  ·cases h
 ·split at h
  ·split at h
   ·rename_i e e1
    obtain⟨g,e⟩:=dJ h;clear h;subst e;have h:=g
    simp only[Bool.and_eq_true] at h
    exact .bytesStr _ _ _ e (f7 e1) (nH h.1) (f6 h.2)
   ·cases h
  ·cases h
 ·split at h
  ·split at h
   ·rename_i d e1
    obtain⟨g,e⟩:=dJ h;clear h;subst e;have h:=g
    simp only[Bool.and_eq_true] at h
    rw[eR h.1]
    refine .mkIface _ _ d e1 (fun ms e=>?_)
    subst e
    cases h.2
   ·cases h
  ·cases h
 ·split at h
  ·obtain⟨g,e⟩:=dJ h;clear h;subst e;have h:=g
   simp only[Bool.and_eq_true] at h
   rw[eR h.1,eR h.2]
   exact .mkFunc _ _ _
  ·cases h
 ·split at h
  ·split at h
   ·rename_i fields e1
    split at h
    ·rename_i fd e2
     obtain⟨g,e⟩:=dJ h;clear h;subst e;have h:=g
     simp only[Bool.and_eq_true,Bool.not_eq_true'] at h
     obtain⟨⟨h1,h2⟩,h3⟩:=h
     obtain⟨d,b,q⟩:=f8 h2
     rw[eR h1]
     exact .fieldAddr _ _ _ fields fd d _ b _ (kF e1) e2 q (fun e=>by rw[e] at h3;cases h3)
    ·cases h
   ·cases h
  ·cases h
 ·split at h
  ·split at h
   ·rename_i fields e1
    split at h
    ·rename_i fd e2
     obtain⟨g,e⟩:=dJ h;clear h;subst e;have h:=g
     simp only[Bool.and_eq_true] at h
     obtain⟨h1,h2⟩:=h
     obtain⟨d,b,q,-⟩:=dW h2
     rw[eR h1]
     exact .field _ _ _ fields fd d _ b _ (kF e1) e2 q
    ·cases h
   ·cases h
  ·cases h
 ·split at h
  ·split at h
   ·rename_i l e e1
    obtain⟨g,e⟩:=dJ h;clear h;subst e;have h:=g
    simp only[Bool.and_eq_true] at h
    obtain⟨⟨h1,h2⟩,h3⟩:=h
    obtain⟨d,b,q⟩:=f8 h3
    rw[eR h1,eR h2]
    exact .indexA _ _ _ l e d _ b _ (lT e1) q
   ·cases h
  ·cases h
 ·split at h
  ·split at h
   ·rename_i e e1
    obtain⟨g,e⟩:=dJ h;clear h;subst e;have h:=g
    simp only[Bool.and_eq_true] at h
    obtain⟨h1,h2⟩:=h
    obtain⟨d,b,q⟩:=f8 h2
    rw[eR h1]
    exact .indexS _ _ _ e d _ b _ (f7 e1) q
   ·cases h
  ·cases h
 ·split at h
  ·split at h
   ·rename_i l e e1
    obtain⟨g,e⟩:=dJ h;clear h;subst e;have h:=g
    simp only[Bool.and_eq_true] at h
    obtain⟨h1,h2⟩:=h
    obtain⟨d,b,q,-⟩:=dW h2
    rw[eR h1]
    exact .idxArr _ _ _ l e d _ b _ (lT e1) q
   ·cases h
  ·cases h
 ·split at h
  ·obtain⟨g,e⟩:=dJ h;clear h;subst e;have h:=g
   exact .idxStr _ _ _ (f6 h)
  ·cases h
 ·split at h
  ·split at h
   ·rename_i e e1
    obtain⟨g,e⟩:=dJ h;clear h;subst e;have h:=g
    simp only[Bool.and_eq_true,vR,beq_iff_eq] at h
    obtain⟨⟨⟨h1,h2⟩,h3⟩,h4⟩:=h
    obtain⟨d,b,q⟩:=f8 h2
    rw[eR h1,←h3,←h4]
    exact .sliceS _ _ _ _ e d _ b _ (f7 e1) q
   ·cases h
  ·cases h
 ·split at h
  ·obtain⟨g,e⟩:=dJ h;clear h;subst e;have h:=g
   simp only[Bool.and_eq_true,vR,beq_iff_eq] at h
   obtain⟨⟨h1,h3⟩,h4⟩:=h
   rw[←h3,←h4]
   exact .sliceStr _ _ _ _ (f6 h1)
  ·cases h
 ·split at h
  ·split at h
   ·rename_i n e e1
    obtain⟨g,e⟩:=dJ h;clear h;subst e;have h:=g
    simp only[Bool.and_eq_true,vR,beq_iff_eq] at h
    obtain⟨⟨⟨⟨h0,h1⟩,h2⟩,h3⟩,h4⟩:=h
    obtain⟨d,b,q⟩:=f8 h2
    rw[eR h0,eR h1,←h3,←h4]
    exact .sliceA _ _ _ _ n e d _ b _ (lT e1) q
   ·cases h
  ·cases h
 ·split at h
  ·obtain⟨g,e⟩:=dJ h;clear h;subst e;have h:=g
   rw[eR h]
   exact .extract _ _
  ·cases h
 ·split at h
  ·rename_i x t e1
   obtain⟨g,e⟩:=dJ h;clear h;subst e;have h:=g
   rw[iL e1]
   exact .lenStr _ _ (f6 h)
  ·cases h
 ·split at h
  ·rename_i x t e1
   obtain⟨g,e⟩:=dJ h;clear h;subst e;have h:=g
   obtain⟨e,he⟩:=Option.isSome_iff_exists.1 h
   rw[iL e1]
   exact .lenSlice _ _ e (f7 he)
  ·cases h
 ·split at h
  ·rename_i x t e1
   rw[iL e1]
   split at h
   ·rename_i m e e2
    obtain⟨g,e⟩:=dJ h;clear h;subst e;have h:=g
    rw[eR h]
    exact .lenArr _ _ _ e (lT e2)
   ·split at h
    ·rename_i a e2
     split at h
     ·rename_i m e e3
      obtain⟨g,e⟩:=dJ h;clear h;subst e;have h:=g
      rw[eR h]
      exact .lenPtr _ _ a _ e (JW e2) (lT e3)
     ·cases h
    ·cases h
  ·cases h
 ·split at h
  ·rename_i ys ts e1
   cases h
   rw[iL e1]
   exact .min ⟨xs⟩ ⟨ts⟩
  ·cases h
 ·split at h
  ·rename_i ys ts e1
   cases h
   rw[iL e1]
   exact .max ⟨xs⟩ ⟨ts⟩
  ·cases h
end Go.Idl
namespace Go.Idl
def AK:Op→Option (Operand×List Operand)
 |.call ⟨.value g,xs,_⟩=>some (g,xs.toList)
 |_=>none
theorem Ar {op:Op}{g:Operand}{xs:List Operand}(h:AK op=some (g,xs)):∃ts,op=.call ⟨.value g,⟨xs⟩,ts⟩:=by
 unfold AK at h
 split at h
 ·rename_i g' xs' ts
  obtain⟨xs'⟩:=xs'
  cases h
  exact⟨ts,rfl⟩
 ·cases h
variable (P:Program) (rows:Nat→Option (List IV))
def ckK (op:Op):IK→Bool
 |.mv x' _ _=>match op with
  |.move x=>eE rows x x'
  |.assign x=>eE rows x x'
  |_=>false
 |.p po as=>match ckP P op po with
  |some xs=>js rows xs as
  |none=>false
 |.same x'=>match op with
  |.convert s t x=>Nat.beq s t&&(match iM P t with | some e=>mE P e | none=>false)&&eE rows x x'
  |_=>false
 |.load agg n a' _=>match op with
  |.load t a=>jK P t n agg&&eE rows a a'
  |_=>false
 |.store n a' x' _=>match op with
  |.store t a x=>jK P t n (pc P t)&&eE rows a a'&&eE rows x x'
  |_=>false
 |.allocL _ zero _=>match op with | .alloc t=>iT P t zero | _=>false
 |.allocG zero _=>match op with | .alloc t=>iT P t zero | _=>false
 |.boxL _ _ x'=>match op with | .box _ x=>eE rows x x' | _=>false
 |.boxG _ x'=>match op with | .box _ x=>eE rows x x' | _=>false
 |.buildSlice n len zero parts as=>match op with
  |.buildSlice t len' ps=>match iM P t with
   |some e=>Nat.beq len len'&&jK P e n (pc P e)&&iT P e zero&&iH parts (ps.toList.map fun p=>(p.1*n,n))&&Nat.ble (len*n) 16777216&&js rows (ps.toList.map (·.2)) as
   |none=>false
  |_=>false
 |.strBytes x'=>match op with
  |.convert s d x=>match iM P d with
   |some e=>gU P s&&mE P e&&eE rows x x'
   |none=>false
  |_=>false
 |.makeI n bytes zero l' c'=>match op with
  |.makeSlice t l c=>match iM P t with
   |some e=>jK P e n (pc P e)&&Nat.beq bytes (bytesOf P e)&&iT P e zero&&eE rows l l'&&eE rows c c'
   |none=>false
  |_=>false
 |.makeB n bytes zero l' c'=>match op with
  |.makeSlice t l c=>match iM P t with
   |some e=>jK P e n (pc P e)&&Nat.beq bytes (bytesOf P e)&&iT P e zero&&eE rows l l'&&eE rows c c'
   |none=>false
  |_=>false
 |.append n bytes s' x'=>match lq op with
  |some (.append,[s,x],[t,u])=>match iM P t with
   |some e=>jK P e n (pc P e)&&Nat.beq bytes (bytesOf P e) && !Nat.beq bytes 0 && !Nat.beq n 0&&iT P e (zeroIV e)&&(gU P u||(iM P u).isSome)&&eE rows s s'&&eE rows x x'
   |none=>false
  |_=>false
 |.copy n d' s'=>match lq op with
  |some (.copy,[d,s],[t,_])=>match iM P t with
   |some e=>jK P e n (pc P e)&&eE rows d d'&&eE rows s s'
   |none=>false
  |_=>false
 |.callF f as _=>match AK op with
  |some (.func g,xs)=>Nat.beq f g&&js rows xs as
  |_=>false
 |.callV g' as _=>match AK op with
  |some (g,xs)=>eE rows g g'&&js rows xs as
  |_=>false
 |.mkMap=>match op with | .makeMap _ none=>true | _=>false
 |.lookup ed zero ok m' x'=>match op with
  |.lookup t m x ok'=>match C2 P t with
   |some (k,e)=>match P.underlying k,P.info? e with
    |some d,some i=>match i.zero with
     |some z=>(ok==ok')&&E5 ed d&&ckV 20000 zero z&&eE rows m m'&&eE rows x x'
     |none=>false
    |_,_=>false
   |none=>false
  |_=>false
 |.mapUpd ed m' x' v'=>match op with
  |.mapUpdate t m x v=>match C2 P t with
   |some (k,_)=>match P.underlying k with
    |some d=>E5 ed d&&eE rows m m'&&eE rows x x'&&eE rows v v'
    |none=>false
   |none=>false
  |_=>false
 |.mapLen m'=>match lq op with
  |some (.len,[m],[t])=>(C2 P t).isSome&&eE rows m m'
  |_=>false
 |.rangeStr _ x'=>match op with
  |.range t x=>gU P t&&eE rows x x'
  |_=>false
 |.nextStr a'=>match op with
  |.next a true=>eE rows a a'
  |_=>false
where
 zeroIV (e:TypeId):List IV:=match P.info? e with
  |some i=>match i.zero with
   |some v=>v.cells.toList.map ofV
   |none=>[]
  |none=>[]
 ofV:Value→IV
  |.bool b=>.bool b
  |.int k n=>.int k n
  |.float k n=>.float k n
  |.complex k a b=>.cplx k a b
  |.string t=>.str t.data.toList
  |.pointer _=>.nilPtr
  |.slice _ _ _=>.nilSlice
  |.map _=>.nilMap
  |.nilIface=>.nilIface
  |.nilFunc=>.nilFunc
  |_=>.undef
variable {P rows}
theorem A8 {op:Op}{k:IK}(h:ckK P rows op k=true):KR P rows op k:=by
 unfold ckK at h
 split at h
 ·split at h
  ·exact .move _ _ _ _ (aY h)
  ·exact .assign _ _ _ _ (aY h)
  ·cases h
 ·split at h
  ·rename_i e;exact .p _ _ _ _ (Bo e) (gp h)
  ·cases h
 ·split at h
  ·simp only[Bool.and_eq_true] at h
   obtain⟨⟨h1,h2⟩,h3⟩:=h
   rw[eR h1]
   split at h2
   ·rename_i e he;exact .same _ e _ _ (f7 he) (nH h2) (aY h3)
   ·cases h2
  ·cases h
 ·split at h
  ·simp only[Bool.and_eq_true] at h
   obtain⟨d,b,q,-⟩:=dW h.1
   exact .load _ d _ b _ _ _ _ q (aY h.2)
  ·cases h
 ·split at h
  ·simp only[Bool.and_eq_true] at h
   obtain⟨d,b,q,-⟩:=dW h.1.1
   exact .store _ d _ b _ _ _ _ _ _ q (aY h.1.2) (aY h.2)
  ·cases h
 ·split at h<;>first | exact .allocL _ _ _ _ (eP h) | cases h
 ·split at h<;>first | exact .allocG _ _ _ (eP h) | cases h
 ·split at h<;>first | exact .boxL _ _ _ _ _ (aY h) | cases h
 ·split at h<;>first | exact .boxG _ _ _ _ (aY h) | cases h
 ·split at h
  ·split at h
   ·rename_i e he
    simp only[Bool.and_eq_true] at h
    obtain⟨⟨⟨⟨⟨h1,h2⟩,h3⟩,h4⟩,h5⟩,h6⟩:=h
    obtain⟨d,b,q,-⟩:=dW h2
    have hl:=Nat.le_of_ble_eq_true h5
    rw[eR h1] at hl ⊢
    exact .buildSlice _ e _ _ _ _ _ d _ b _ (f7 he) q (eP h3) (gL h4) (by simpa using hl) (gp h6)
   ·cases h
  ·cases h
 ·split at h
  ·split at h
   ·rename_i e he
    simp only[Bool.and_eq_true] at h
    exact .strBytes _ _ e _ _ (f6 h.1.1) (f7 he) (nH h.1.2) (aY h.2)
   ·cases h
  ·cases h
 ·split at h
  ·split at h
   ·rename_i e he
    simp only[Bool.and_eq_true] at h
    obtain⟨⟨⟨⟨h1,h2⟩,h3⟩,h4⟩,h5⟩:=h
    obtain⟨d,b,q,i,hi,hb⟩:=dW h1
    have hb2:bytesOf P e=b:=by simp[bytesOf,hi,hb]
    rw[eR h2,hb2]
    exact .makeI _ e _ _ _ _ _ d _ b _ (f7 he) q (eP h3) (aY h4) (aY h5)
   ·cases h
  ·cases h
 ·split at h
  ·split at h
   ·rename_i e he
    simp only[Bool.and_eq_true] at h
    obtain⟨⟨⟨⟨h1,h2⟩,h3⟩,h4⟩,h5⟩:=h
    obtain⟨d,b,q,i,hi,hb⟩:=dW h1
    have hb2:bytesOf P e=b:=by simp[bytesOf,hi,hb]
    rw[eR h2,hb2]
    exact .makeB _ e _ _ _ _ _ d _ b _ (f7 he) q (eP h3) (aY h4) (aY h5)
   ·cases h
  ·cases h
 ·split at h
  ·rename_i s x t u e1
   rw[iL e1]
   split at h
   ·rename_i e he
    simp only[Bool.and_eq_true,Bool.not_eq_true',Bool.or_eq_true] at h
    obtain⟨⟨⟨⟨⟨⟨⟨h1,h2⟩,h3⟩,h4⟩,h5⟩,h6⟩,h7⟩,h8⟩:=h
    obtain⟨d,b,q,i,hi,hb⟩:=dW h1
    have hb2:bytesOf P e=b:=by simp[bytesOf,hi,hb]
    have hbb:=eR h2
    rw[hb2] at hbb
    subst hbb
    refine .append _ _ e _ _ _ _ _ d _ _ _ (f7 he) ?_ q (fun q=>by rw[q] at h3;cases h3) (fun q=>by rw[q] at h4;cases h4) (eP h5) (aY h7) (aY h8)
    rcases h6 with h6 | h6
    ·exact .inl (f6 h6)
    ·obtain⟨e',he'⟩:=Option.isSome_iff_exists.1 h6
     exact .inr ⟨e',f7 he'⟩
   ·cases h
  ·cases h
 ·split at h
  ·rename_i d s t u e1
   rw[iL e1]
   split at h
   ·rename_i e he
    simp only[Bool.and_eq_true] at h
    obtain⟨td,b,q,-⟩:=dW h.1.1
    exact .copy _ _ e _ _ _ _ td _ b _ (f7 he) q (aY h.1.2) (aY h.2)
   ·cases h
  ·cases h
 ·split at h
  ·rename_i g xs e1
   obtain⟨ts,rfl⟩:=Ar e1
   simp only[Bool.and_eq_true] at h
   rw[eR h.1]
   exact .callF _ _ _ _ _ (gp h.2)
  ·cases h
 ·split at h
  ·rename_i g xs e1
   obtain⟨ts,rfl⟩:=Ar e1
   simp only[Bool.and_eq_true] at h
   exact .callV _ _ _ _ _ _ (aY h.1) (gp h.2)
  ·cases h
 ·split at h<;>first | exact .mkMap _ | cases h
 ·split at h
  ·split at h
   ·rename_i k e he
    split at h
    ·rename_i d i e1 e2
     split at h
     ·rename_i z ez
      simp only[Bool.and_eq_true,beq_iff_eq] at h
      obtain⟨⟨⟨⟨h1,h2⟩,h3⟩,h4⟩,h5⟩:=h
      subst h1
      exact .lookup _ k e _ _ _ _ _ _ d _ (zf he) e1 (oP h2) ⟨i,z,e2,ez,kH _ _ _ h3⟩ (aY h4) (aY h5)
     ·cases h
    ·cases h
   ·cases h
  ·cases h
 ·split at h
  ·split at h
   ·rename_i k e he
    split at h
    ·rename_i d e1
     simp only[Bool.and_eq_true] at h
     obtain⟨⟨⟨h2,h3⟩,h4⟩,h5⟩:=h
     exact .mapUpd _ k e _ _ _ _ _ _ d _ (zf he) e1 (oP h2) (aY h3) (aY h4) (aY h5)
    ·cases h
   ·cases h
  ·cases h
 ·split at h
  ·rename_i m t e1
   rw[iL e1]
   simp only[Bool.and_eq_true] at h
   obtain⟨⟨k,e⟩,he⟩:=Option.isSome_iff_exists.1 h.1
   exact .mapLen _ k e _ _ (zf he) (aY h.2)
  ·cases h
 ·split at h
  ·simp only[Bool.and_eq_true] at h
   exact .rangeStr _ _ _ _ (f6 h.1) (aY h.2)
  ·cases h
 ·split at h
  ·exact .nextStr _ _ (aY h)
  ·cases h
def ur:Option Nat→Option Nat→Bool
 |none,none=>true
 |some i,some j=>Nat.beq i j
 |_,_=>false
theorem xb {a b:Option Nat}(h:ur a b=true):a=b:=by
 unfold ur at h
 split at h
 ·rfl
 ·rw[eR h]
 ·cases h
variable (P rows)
def Ak (ops:Array Oper):Option (Nat×Bool)→Option (Nat×Bool)→Bool
 |none,none=>true
 |some (j,want),some (s,want')=>(want==want')&&ur ((ops[j]?).bind (·.dst)) (some s)
 |_,_=>false
def JH (N:Nat) (ops:Array Oper) (o:Oper) (i:IOp):Bool :=
 ur o.dst i.dst&&(match i.dst with | some d=>Nat.blt d N | none=>true)&&Ak ops o.guard i.guard&&ckK P rows o.op i.k
def rH (N:Nat) (ops:Array Oper):List Oper→List IOp→Bool
 |[],[]=>true
 |o::os,i::is=>JH P rows N ops o i&&rH N ops os is
 |_,_=>false
def zS (N:Nat):List Nat→Bool
 |[]=>true
 |p::r=>Nat.blt p N&&zS N r
def nK:List Nat→List Nat→Bool
 |[],[]=>true
 |a::r,b::s=>Nat.beq a b&&nK r s
 |_,_=>false
variable (rnd:FuncId→Nat→Option IRnd)
def dV (N:Nat):Code→ICode→Bool
 |.skip,x=>match x with | .skip=>true | _=>false
 |.label _,x=>match x with | .skip=>true | _=>false
 |.region _ ops false,x=>match x with | .ops is=>rH P rows N ops ops.toList is | _=>false
 |.region _ ops true,x=>match x with | .draw is pre=>rH P rows N ops ops.toList is&&rj ops is pre | _=>false
 |.seq a b,x=>match x with | .seq y z=>dV N a y&&dV N b z | _=>false
 |.cond c a b,x=>match x with | .cond c' y z=>eE rows c c'&&dV N a y&&dV N b z | _=>false
 |.block id a,x=>match x with | .block id' y=>Nat.beq id id'&&dV N a y | _=>false
 |.loop a,x=>match x with | .loop _ y=>dV N a y | _=>false
 |.exit id,x=>match x with | .exit id'=>Nat.beq id id' | _=>false
 |.ret,x=>match x with | .ret=>true | _=>false
 |.scope a,x=>dV N a x
 |.rangeFunc g ps as body,x=>match x with
  |.rangeF g' fn site=>match rnd fn site with
   |some r=>eE rows g g'&&nK ps.toList r.ps&&zS N r.ps&&dV N as r.assign&&dV N body r.body
   |none=>false
  |_=>false
 |_,_=>false
variable {P rows rnd}
theorem y9 {N:Nat}{ops:Array Oper}{o:Oper}{i:IOp}(h:JH P rows N ops o i=true):OpR P rows N ops o i:=by
 simp only[JH,Bool.and_eq_true] at h
 obtain⟨⟨⟨h1,h2⟩,h3⟩,h4⟩:=h
 refine⟨xb h1,fun d hd=>?_,A8 h4,?_⟩
 ·rw[hd] at h2;simpa[Nat.blt_eq] using h2
 ·unfold Ak at h3
  split at h3
  ·rename_i e1 e2;rw[e1,e2];trivial
  ·rename_i j w s w' e1 e2
   rw[e1,e2]
   simp only[Bool.and_eq_true,beq_iff_eq] at h3
   exact⟨h3.1,xb h3.2⟩
  ·cases h3
theorem kh {N:Nat}{ops:Array Oper}:∀{os:List Oper}{is:List IOp},rH P rows N ops os is=true→OpsR P rows N ops os is
 |[],[],_=>.nil
 |o::os,i::is,h=>by
  simp only[rH,Bool.and_eq_true] at h
  exact .cons (y9 h.1) (kh h.2)
 |[],_::_,h=>by simp[rH] at h
 |_::_,[],h=>by simp[rH] at h
theorem AL {N:Nat}:∀{l:List Nat},zS N l=true→∀p∈l,p<N
 |[],_,p,h=>by cases h
 |q::l,h,p,hp=>by
  simp only[zS,Bool.and_eq_true,Nat.blt_eq] at h
  rcases List.mem_cons.1 hp with rfl | hp
  ·exact h.1
  ·exact AL h.2 p hp
theorem xV:∀{a b:List Nat},nK a b=true→a=b
 |[],[],_=>rfl
 |a::r,b::s,h=>by
  simp only[nK,Bool.and_eq_true] at h
  rw[eR h.1,xV h.2]
 |[],_::_,h=>by simp[nK] at h
 |_::_,[],h=>by simp[nK] at h
theorem dL {T:Tab}{N:Nat}:∀(c:Code) (x:ICode),dV P rows T.rnd N c x=true→CR P rows N T (fun ops is pre=>rj ops is pre=true) c x
 |.skip,x,h=>by simp only[dV] at h;split at h<;>first | exact .skip | cases h
 |.label l,x,h=>by simp only[dV] at h;split at h<;>first | exact .label _ | cases h
 |.region id ops false,x,h=>by simp only[dV] at h;split at h<;>first | exact .ops _ _ _ (kh h) | cases h
 |.region id ops true,x,h=>by
  simp only[dV] at h
  split at h
  ·simp only[Bool.and_eq_true] at h;exact .draw _ _ _ _ (kh h.1) h.2
  ·cases h
 |.seq a b,x,h=>by
  simp only[dV] at h
  split at h
  ·simp only[Bool.and_eq_true] at h;exact .seq (dL a _ h.1) (dL b _ h.2)
  ·cases h
 |.cond c a b,x,h=>by
  simp only[dV] at h
  split at h
  ·simp only[Bool.and_eq_true] at h;exact .cond (aY h.1.1) (dL a _ h.1.2) (dL b _ h.2)
  ·cases h
 |.block id a,x,h=>by
  simp only[dV] at h
  split at h
  ·simp only[Bool.and_eq_true] at h;rw[eR h.1];exact .block (dL a _ h.2)
  ·cases h
 |.loop a,x,h=>by
  simp only[dV] at h
  split at h
  ·exact .loop (dL a _ h)
  ·cases h
 |.exit id,x,h=>by
  simp only[dV] at h
  split at h
  ·rw[eR h];exact .exit _
  ·cases h
 |.ret,x,h=>by simp only[dV] at h;split at h<;>first | exact .ret | cases h
 |.scope a,x,h=>.scope (dL a x (by simpa only[dV] using h))
 |.rangeFunc g ps as body,x,h=>by
  simp only[dV] at h
  split at h
  ·split at h
   ·rename_i r hr
    simp only[Bool.and_eq_true] at h
    obtain⟨⟨⟨⟨h1,h2⟩,h3⟩,h4⟩,h5⟩:=h
    exact .rangeF (aY h1) hr (xV h2) (AL h3) (dL as _ h4) (dL body _ h5)
   ·cases h
  ·cases h
 |.goto _,x,h=>by simp[dV] at h
 |.refuse _,x,h=>by simp[dV] at h
variable (P)
def Ii:ResultVar→RV→Bool
 |.tmp i,.t j=>Nat.beq i j
 |.cell i t,.cell j agg n=>Nat.beq i j&&jK P t n agg
 |_,_=>false
def oC:List ResultVar→List RV→Bool
 |[],[]=>true
 |x::xs,y::ys=>Ii P x y&&oC xs ys
 |_,_=>false
variable (rows rnd)
def Ku (f:FuncId) (ifn:IFn):Bool :=
 match P.funcs[f]? with
 |some fn=>match fn.body with
  |some c=>!(fn.name == "runtime.NumGoroutine")&&Nat.ble ifn.nargs fn.ntmps&&oC P fn.results.toList ifn.rets&&dV P rows rnd fn.ntmps c ifn.body
  |none=>false
 |none=>false
variable {P rows rnd}
theorem mR:∀{xs:List ResultVar}{ys:List RV},oC P xs ys=true→RetsR P xs ys
 |[],[],_=>.nil
 |x::xs,y::ys,h=>by
  simp only[oC,Bool.and_eq_true] at h
  refine .cons ?_ (mR h.2)
  have h:=h.1
  unfold Ii at h
  split at h
  ·rw[eR h];exact .tmp _
  ·simp only[Bool.and_eq_true] at h
   obtain⟨d,b,q,-⟩:=dW h.2
   rw[eR h.1]
   exact .cell _ _ d _ b _ q
  ·cases h
 |[],_::_,h=>by simp[oC] at h
 |_::_,[],h=>by simp[oC] at h
theorem yP {T:Tab}{f:FuncId}{ifn:IFn}(h:Ku P rows T.rnd f ifn=true):∃fn c,FnR ⟨P,rows,T,fun ops is pre=>rj ops is pre=true⟩ f ifn fn c:=by
 unfold Ku at h
 split at h
 ·rename_i fn e1
  split at h
  ·rename_i c e2
   simp only[Bool.and_eq_true,Bool.not_eq_true'] at h
   obtain⟨⟨⟨h1,h2⟩,h3⟩,h4⟩:=h
   exact⟨fn,c,e1,e2,h1,dL c _ h4,Nat.le_of_ble_eq_true h2,mR h3⟩
  ·cases h
 ·cases h
theorem FT.all_find {α:Type}{p:Nat→α→Bool}:∀{t:FT α},t.all p=true→∀{i v},t.find i=some v→p i v=true
 |.nil,_,i,v,h=>by simp[FT.find] at h
 |.node k v l r,ha,i,x,h=>by
  simp only[FT.all,Bool.and_eq_true] at ha
  simp only[FT.find] at h
  split at h
  ·rename_i e
   cases h
   rw[eR e];exact ha.1.1
  ·split at h
   ·exact FT.all_find ha.1.2 h
   ·exact FT.all_find ha.2 h
end Go.Idl
namespace Go.Idl
open Classical
def iE (c c':bD):Prop:=∀a b m r,c a b m=some r→c' a b m=some r
def nJ (l l':gQ):Prop:=∀h b st r,l h b st=some r→l' h b st=some r
theorem lJ {c c':bD}(hc:iE c c') {st:St}{f:Callee}{as:List IV}{hs:List Arg}{r:IV×Cap×St}(h:cQ c st f as hs=some r):cQ c' st f as hs=some r:=by
 unfold cQ at h ⊢
 split at h
 ·rename_i q hh e1 e2
  split at h
  ·cases h
  ·rename_i m em
   split at h
   ·cases h
   ·rename_i v m' ec
    rw[hc _ _ _ _ ec]
    exact h
 ·cases h
theorem Hi {c c':bD}(hc:iE c c') {st:St}{k:IK}{r:IV×Cap×St}(h:k.run c st=some r):k.run c' st=some r:=by
 cases k with
 |callF f as hs =>
  simp only[IK.run] at h ⊢
  split at h
  ·exact lJ hc h
  ·cases h
 |callV g as hs =>
  simp only[IK.run] at h ⊢
  split at h
  ·split at h
   ·exact lJ hc h
   ·exact lJ hc h
   ·cases h
  ·cases h
 |_=>exact h
theorem th {c c':bD}(hc:iE c c') {st:St}{o:IOp}{r:St}(h:o.run0 c st=some r):o.run0 c' st=some r:=by
 unfold IOp.run0 at h ⊢
 split at h
 ·split at h
  ·rename_i e;rw[Hi hc e];exact h
  ·cases h
 ·exact h
 ·cases h
theorem AD {c c':bD}(hc:iE c c') {st:St}{o:IOp}{r:St}(h:o.run c st=some r):o.run c' st=some r:=by
 unfold IOp.run at h ⊢
 split at h
 ·split at h
  ·exact th hc h
  ·cases h
 ·exact th hc h
theorem na {c c':bD}(hc:iE c c'):∀{l:List IOp}{st r:St},aU c l st=some r→aU c' l st=some r
 |[],_,_,h=>h
 |o::l,st,r,h=>by
  simp only[aU] at h ⊢
  split at h
  ·rename_i e;rw[AD hc e];exact na hc h
  ·cases h
theorem dc {c c':bD}(hc:iE c c') {l l':gQ}(hl:nJ l l'):∀{x:ICode}{st:St}{r:Ex×St},x.run c l st=some r→x.run c' l' st=some r
 |.skip,_,_,h=>h
 |.ops is,st,r,h=>by
  simp only[ICode.run] at h ⊢
  split at h
  ·rename_i e;rw[na hc e];exact h
  ·cases h
 |.draw is _,st,r,h=>by
  simp only[ICode.run] at h ⊢
  split at h
  ·split at h
   ·rename_i e;rw[na hc e];exact h
   ·cases h
  ·cases h
 |.seq a b,st,r,h=>by
  simp only[ICode.run] at h ⊢
  split at h
  ·rename_i e;rw[dc hc hl e];exact dc hc hl h
  ·rename_i hn;rw[dc hc hl h]
   split
   ·rename_i e;cases e;exact (hn _ h).elim
   ·rfl
 |.cond d a b,st,r,h=>by
  simp only[ICode.run] at h ⊢
  split at h
  ·exact dc hc hl h
  ·exact dc hc hl h
  ·cases h
 |.block id b,st,r,h=>by
  simp only[ICode.run] at h ⊢
  split at h
  ·rename_i e;rw[dc hc hl e];exact h
  ·rename_i hn;rw[dc hc hl h]
   split
   ·rename_i e;cases e;exact (hn _ _ h).elim
   ·rfl
 |.loop hd b,st,r,h=>hl _ _ _ _ (by simpa only[ICode.run] using h)
 |.rangeF g fn site,st,r,h=>by
  simp only[ICode.run] at h ⊢
  split at h
  ·split at h
   ·split at h
    ·rename_i e;rw[hc _ _ _ _ e];exact h
    ·cases h
   ·cases h
  ·cases h
 |.exit _,_,_,h=>h
 |.ret,_,_,h=>h
theorem rO {c c':bD}(hc:iE c c') {l l':gQ}(hl:nJ l l') {fn:IFn}{as:List IV}{m:IM}{r:IV×IM}(h:fn.call c l as m=some r):fn.call c' l' as m=some r:=by
 unfold IFn.call at h ⊢
 split at h
 ·cases h
 ·rename_i hn
  rw[if_neg hn]
  split at h
  ·rename_i e;rw[dc hc hl e];exact h
  ·cases h
theorem ss {c c':bD}(hc:iE c c') {l l':gQ}(hl:nJ l l') {rn:IRnd}{id:Nat}{tm:Env}{as:List IV}{m:IM}{r:IV×IM}(h:rn.call c l id tm as m=some r):rn.call c' l' id tm as m=some r:=by
 unfold IRnd.call at h ⊢
 split at h
 ·cases h
 ·rename_i hn
  rw[if_neg hn]
  split at h
  ·rename_i e
   rw[dc hc hl e]
   simp only
   split at h
   ·split at h
    ·split at h
     ·rename_i e2;rw[dc hc hl e2];exact h
     ·cases h
    ·cases h
   ·cases h
  ·cases h
variable (tab:Tab) (ae:qG)
theorem wP:∀k,iE (sem tab ae k).call (sem tab ae (k+1)).call∧nJ (sem tab ae k).loop (sem tab ae (k+1)).loop
 |0=>⟨fun _ _ _ _ h=>by simp[sem] at h,fun _ _ _ _ h=>by simp[sem] at h⟩
 |k+1=>by
  obtain⟨h1,h2⟩:=wP k
  refine⟨fun c as m r h=>?_,fun hd b st r h=>?_⟩
  ·rw[sem] at h ⊢
   simp only at h ⊢
   split at h
   ·split at h
    ·exact h
    ·split at h
     ·exact rO h1 h2 h
     ·cases h
   ·split at h
    ·split at h
     ·exact ss h1 h2 h
     ·cases h
    ·cases h
  ·rw[sem] at h ⊢
   simp only at h ⊢
   split at h
   ·cases h
   ·split at h
    ·rename_i e;rw[dc h1 h2 e];exact h2 _ _ _ _ h
    ·rename_i hn;rw[dc h1 h2 h]
     split
     ·rename_i e;cases e;exact (hn _ h).elim
     ·rfl
theorem fK {k k':Nat}(h:k≤k'):iE (sem tab ae k).call (sem tab ae k').call∧nJ (sem tab ae k).loop (sem tab ae k').loop:=by
 induction h with
 |refl=>exact⟨fun _ _ _ _ h=>h,fun _ _ _ _ h=>h⟩
 |step _ ih =>
  obtain⟨h1,h2⟩:=wP tab ae _
  exact⟨fun _ _ _ _ h=>h1 _ _ _ _ (ih.1 _ _ _ _ h),fun _ _ _ _ h=>h2 _ _ _ _ (ih.2 _ _ _ _ h)⟩
noncomputable def dT:bD:=fun c as m=>if h:∃r,∃k,(sem tab ae k).call c as m=some r then some h.choose else none
noncomputable def eY:gQ:=fun hd b st=>if h:∃r,∃k,(sem tab ae k).loop hd b st=some r then some h.choose else none
variable {tab ae}
theorem gi {c:Callee}{as:List IV}{m:IM}{r:IV×IM}:dT tab ae c as m=some r↔∃k,(sem tab ae k).call c as m=some r:=by
 have uniq:∀{r r' k k'},(sem tab ae k).call c as m=some r→(sem tab ae k').call c as m=some r'→r=r':=by
  intro r r' k k' h h'
  have h1:=(fK tab ae (Nat.le_max_left k k')).1 _ _ _ _ h
  have h2:=(fK tab ae (Nat.le_max_right k k')).1 _ _ _ _ h'
  rw[h1] at h2
  exact Option.some.inj h2
 unfold dT
 constructor
 ·intro h
  split at h
  ·rename_i hx
   cases h
   exact hx.choose_spec
  ·cases h
 ·rintro ⟨k,h⟩
  have hx:∃r,∃k,(sem tab ae k).call c as m=some r:=⟨r,k,h⟩
  rw[dif_pos hx]
  obtain⟨k',h'⟩:=hx.choose_spec
  rw[uniq h' h]
theorem kq {hd:Head}{b:ICode}{st:St}{r:Ex×St}:eY tab ae hd b st=some r↔∃k,(sem tab ae k).loop hd b st=some r:=by
 have uniq:∀{r r' k k'},(sem tab ae k).loop hd b st=some r→(sem tab ae k').loop hd b st=some r'→r=r':=by
  intro r r' k k' h h'
  have h1:=(fK tab ae (Nat.le_max_left k k')).2 _ _ _ _ h
  have h2:=(fK tab ae (Nat.le_max_right k k')).2 _ _ _ _ h'
  rw[h1] at h2
  exact Option.some.inj h2
 unfold eY
 constructor
 ·intro h
  split at h
  ·rename_i hx
   cases h
   exact hx.choose_spec
  ·cases h
 ·rintro ⟨k,h⟩
  have hx:∃r,∃k,(sem tab ae k).loop hd b st=some r:=⟨r,k,h⟩
  rw[dif_pos hx]
  obtain⟨k',h'⟩:=hx.choose_spec
  rw[uniq h' h]
theorem mY (k:Nat):iE (sem tab ae k).call (dT tab ae):=fun _ _ _ _ h=>gi.2 ⟨k,h⟩
theorem kb (k:Nat):nJ (sem tab ae k).loop (eY tab ae):=fun _ _ _ _ h=>kq.2 ⟨k,h⟩
theorem om {st:St}{f:Callee}{as:List IV}{hs:List Arg}{r:IV×Cap×St}(h:cQ (dT tab ae) st f as hs=some r):∃k,cQ (sem tab ae k).call st f as hs=some r:=by
 unfold cQ at h
 split at h
 ·rename_i q hh e1 e2
  split at h
  ·cases h
  ·rename_i m em
   split at h
   ·cases h
   ·rename_i v m' ec
    obtain⟨k,hk⟩:=gi.1 ec
    refine⟨k,?_⟩
    simp only[cQ,e1,e2,em,hk]
    exact h
 ·cases h
theorem K5 {st:St}{k:IK}{r:IV×Cap×St}(h:k.run (dT tab ae) st=some r):∃n,k.run (sem tab ae n).call st=some r:=by
 cases k with
 |callF f as hs =>
  simp only[IK.run] at h ⊢
  split at h
  ·exact om h
  ·cases h
 |callV g as hs =>
  simp only[IK.run] at h ⊢
  split at h
  ·split at h
   ·exact om h
   ·exact om h
   ·cases h
  ·cases h
 |_=>exact⟨0,h⟩
theorem w4 {st:St}{o:IOp}{r:St}(h:o.run0 (dT tab ae) st=some r):∃n,o.run0 (sem tab ae n).call st=some r:=by
 unfold IOp.run0 at h ⊢
 split at h
 ·split at h
  ·rename_i e
   obtain⟨n,hn⟩:=K5 e
   exact⟨n,by rw[hn];exact h⟩
  ·cases h
 ·exact⟨0,h⟩
 ·cases h
theorem I3 {st:St}{o:IOp}{r:St}(h:o.run (dT tab ae) st=some r):∃n,o.run (sem tab ae n).call st=some r:=by
 unfold IOp.run at h ⊢
 split at h
 ·split at h
  ·exact w4 h
  ·cases h
 ·exact w4 h
theorem uy:∀{l:List IOp}{st r:St},aU (dT tab ae) l st=some r→∃n,aU (sem tab ae n).call l st=some r
 |[],_,_,h=>⟨0,h⟩
 |o::l,st,r,h=>by
  simp only[aU] at h
  split at h
  ·rename_i e
   obtain⟨n1,h1⟩:=I3 e
   obtain⟨n2,h2⟩:=uy h
   refine⟨max n1 n2,?_⟩
   simp only[aU]
   rw[AD (fK tab ae (Nat.le_max_left n1 n2)).1 h1]
   exact na (fK tab ae (Nat.le_max_right n1 n2)).1 h2
  ·cases h
theorem eZ:∀{x:ICode}{st:St}{r:Ex×St},x.run (dT tab ae) (eY tab ae) st=some r→∃n,x.run (sem tab ae n).call (sem tab ae n).loop st=some r
 |.skip,_,_,h=>⟨0,h⟩
 |.ops is,st,r,h=>by
  simp only[ICode.run] at h ⊢
  split at h
  ·rename_i e;obtain⟨n,hn⟩:=uy e;exact⟨n,by rw[hn];exact h⟩
  ·cases h
 |.draw is _,st,r,h=>by
  simp only[ICode.run] at h ⊢
  split at h
  ·split at h
   ·rename_i e;obtain⟨n,hn⟩:=uy e;exact⟨n,by rw[hn];exact h⟩
   ·cases h
  ·cases h
 |.seq a b,st,r,h=>by
  simp only[ICode.run] at h ⊢
  split at h
  ·rename_i e
   obtain⟨n1,h1⟩:=eZ e
   obtain⟨n2,h2⟩:=eZ h
   refine⟨max n1 n2,?_⟩
   rw[dc (fK tab ae (Nat.le_max_left n1 n2)).1 (fK tab ae (Nat.le_max_left n1 n2)).2 h1]
   exact dc (fK tab ae (Nat.le_max_right n1 n2)).1 (fK tab ae (Nat.le_max_right n1 n2)).2 h2
  ·rename_i hn
   obtain⟨n1,h1⟩:=eZ h
   refine⟨n1,?_⟩
   rw[h1]
   split
   ·rename_i e;cases e;exact (hn _ h).elim
   ·rfl
 |.cond d a b,st,r,h=>by
  simp only[ICode.run] at h ⊢
  split at h
  ·exact eZ h
  ·exact eZ h
  ·cases h
 |.block id b,st,r,h=>by
  simp only[ICode.run] at h ⊢
  split at h
  ·rename_i e;obtain⟨n,hn⟩:=eZ e;exact⟨n,by rw[hn];exact h⟩
  ·rename_i hn
   obtain⟨n1,h1⟩:=eZ h
   refine⟨n1,?_⟩
   rw[h1]
   split
   ·rename_i e;cases e;exact (hn _ _ h).elim
   ·rfl
 |.loop hd b,st,r,h=>kq.1 (by simpa only[ICode.run] using h)
 |.rangeF g fn site,st,r,h=>by
  simp only[ICode.run] at h ⊢
  split at h
  ·split at h
   ·split at h
    ·rename_i e;obtain⟨n,hn⟩:=gi.1 e;exact⟨n,by rw[hn];exact h⟩
    ·cases h
   ·cases h
  ·cases h
 |.exit _,_,_,h=>⟨0,h⟩
 |.ret,_,_,h=>⟨0,h⟩
theorem Bb {fn:IFn}{as:List IV}{m:IM}{r:IV×IM}(h:fn.call (dT tab ae) (eY tab ae) as m=some r):∃n,fn.call (sem tab ae n).call (sem tab ae n).loop as m=some r:=by
 unfold IFn.call at h ⊢
 split at h
 ·cases h
 ·rename_i hn
  simp only[if_neg hn]
  split at h
  ·rename_i e;obtain⟨n,hn'⟩:=eZ e;exact⟨n,by rw[hn'];exact h⟩
  ·cases h
theorem BB {rn:IRnd}{id:Nat}{tm:Env}{as:List IV}{m:IM}{r:IV×IM}(h:rn.call (dT tab ae) (eY tab ae) id tm as m=some r):∃n,rn.call (sem tab ae n).call (sem tab ae n).loop id tm as m=some r:=by
 unfold IRnd.call at h ⊢
 split at h
 ·cases h
 ·rename_i hn
  simp only[if_neg hn]
  split at h
  ·rename_i e
   obtain⟨n1,h1⟩:=eZ e
   split at h
   ·rename_i e0
    split at h
    ·rename_i e1
     split at h
     ·rename_i e2
      obtain⟨n2,h2⟩:=eZ e2
      refine⟨max n1 n2,?_⟩
      rw[dc (fK tab ae (Nat.le_max_left n1 n2)).1 (fK tab ae (Nat.le_max_left n1 n2)).2 h1]
      simp only[e0,e1]
      rw[dc (fK tab ae (Nat.le_max_right n1 n2)).1 (fK tab ae (Nat.le_max_right n1 n2)).2 h2]
      exact h
     ·cases h
    ·cases h
   ·cases h
  ·cases h
theorem qA {f:FuncId}{p:List IV→Option IV}(hp:ae f=some p) (as:List IV) (m:IM):dT tab ae (.f f) as m=(p as).map (·,m):=by
 ext r
 rw[gi]
 constructor
 ·rintro ⟨k,h⟩
  cases k with
  |zero=>simp[sem] at h
  |succ k=>rw[sem] at h;simp only[hp] at h;exact h
 ·intro h
  exact⟨1,by rw[sem];simp only[hp];exact h⟩
theorem bY {f:FuncId}{fn:IFn}(hp:ae f=none) (hf:tab.fns f=some fn) (as:List IV) (m:IM):dT tab ae (.f f) as m=fn.call (dT tab ae) (eY tab ae) as m:=by
 ext r
 rw[gi]
 constructor
 ·rintro ⟨k,h⟩
  cases k with
  |zero=>simp[sem] at h
  |succ k=>rw[sem] at h;simp only[hp,hf] at h;exact rO (mY k) (kb k) h
 ·intro h
  obtain⟨k,h⟩:=Bb h
  exact⟨k+1,by rw[sem];simp only[hp,hf];exact h⟩
theorem HT {id:Nat}{m:IM}{bz fn site:Nat}{tm:Env}{j:Nat}{r:IRnd}(hm:m.get id=.loop bz fn site tm j) (hr:tab.rnd fn site=some r) (as:List IV) :
  dT tab ae (.y id) as m=r.call (dT tab ae) (eY tab ae) id tm as m:=by
 ext q
 rw[gi]
 constructor
 ·rintro ⟨k,h⟩
  cases k with
  |zero=>simp[sem] at h
  |succ k=>rw[sem] at h;simp only[hm,hr] at h;exact ss (mY k) (kb k) h
 ·intro h
  obtain⟨k,h⟩:=BB h
  exact⟨k+1,by rw[sem];simp only[hm,hr];exact h⟩
theorem El (hd:Head) (b:ICode) (st:St):eY tab ae hd b st=match st.head hd with
  |none=>none
  |some st=>match b.run (dT tab ae) (eY tab ae) st with
   |some (.normal,st)=>eY tab ae hd b st
   |r=>r:=by
 ext q
 rw[kq]
 constructor
 ·rintro ⟨k,h⟩
  cases k with
  |zero=>simp[sem] at h
  |succ k =>
   rw[sem] at h
   simp only at h
   split at h
   ·cases h
   ·rename_i s1 e1
    rw[e1]
    simp only
    split at h
    ·rename_i e;rw[dc (mY k) (kb k) e];exact kb k _ _ _ _ h
    ·rename_i hn;rw[dc (mY k) (kb k) h]
     split
     ·rename_i e;cases e;exact (hn _ h).elim
     ·rfl
 ·intro h
  split at h
  ·cases h
  ·rename_i s1 e1
   split at h
   ·rename_i s2 e
    obtain⟨n1,h1⟩:=eZ e
    obtain⟨n2,h2⟩:=kq.1 h
    refine⟨max n1 n2+1,?_⟩
    rw[sem]
    simp only[e1]
    rw[dc (fK tab ae (Nat.le_max_left n1 n2)).1 (fK tab ae (Nat.le_max_left n1 n2)).2 h1]
    exact (fK tab ae (Nat.le_max_right n1 n2)).2 _ _ _ _ h2
   ·rename_i hn
    obtain⟨n1,h1⟩:=eZ h
    refine⟨n1+1,?_⟩
    rw[sem]
    simp only[e1,h1]
    split
    ·rename_i e;cases e;exact (hn _ h).elim
    ·rfl
variable (tab ae)
noncomputable def lc (hd:Head) (b:ICode):Option St→Option (Ex×St)
 |none=>none
 |some st=>match b.run (dT tab ae) (eY tab ae) st with
  |some (.normal,st)=>eY tab ae hd b st
  |r=>r
variable {tab ae}
theorem bE (hd:Head) (b:ICode) (st:St):eY tab ae hd b st=lc tab ae hd b (st.head hd):=by
 rw[El]
 cases st.head hd with
 |none=>rfl
 |some st=>rfl
theorem bn (hd:Head) (b:ICode) (st:St):lc tab ae hd b (some st)=match b.run (dT tab ae) (eY tab ae) st with
  |some (.normal,st)=>lc tab ae hd b (st.head hd)
  |r=>r:=by
 have:lc tab ae hd b (some st)=match b.run (dT tab ae) (eY tab ae) st with
  |some (.normal,st)=>eY tab ae hd b st
  |r=>r:=rfl
 rw[this]
 cases b.run (dT tab ae) (eY tab ae) st with
 |none=>rfl
 |some r =>
  obtain⟨e,st'⟩:=r
  cases e with
  |normal=>exact bE hd b st'
  |exit i=>rfl
  |ret=>rfl
end Go.Idl
namespace Go.Idl
open Go.RowKit
variable {X:Ctx}{G:Gh}{w w':World}
def POK (X:Ctx) (f:FuncId) (p:List IV→Option IV):Prop:=∀args v,p args=some v→(∀id,IV.yld id∉args) ∧
 ∀G m w rs,MR X G m w→WF X G w→(∀k,G.lb k=none)→VRs G args rs→Reach X f rs w (iZ X G w m v)
theorem xh {m : IM} {v : IV} {r : Value} (hm : MR X G m w) (hw : WF X G w) (hl : ∀ k, G.lb k = none) (hv : VR G v r) (hb : Below w.heap.size w w') : iZ X G w m v r w' := by
  have hk : ∀ b, b < w.heap.size → w'.heap[b]? = w.heap[b]? := hb.block
  have hbx : ∀ id b, G.bx id = some b → b < w.heap.size := fun id b e => hw.boxlt b (.inl ⟨id, e⟩)
  refine ⟨G, ⟨?_, ?_, hm.dom, hm.hid⟩, ?_, hv, ?_⟩
  · intro id hn
    obtain ⟨b, ro, e1, e2, e3⟩ := hm.bx id hn
    exact ⟨b, ro, e1, by rw [hk b (hbx id b e1)]; exact e2, e3⟩
  · intro id cs cp off sz e1 e2 b r e3 e4
    rw [hb.cell (p := ⟨b, off, none⟩) (hbx id b e3)] at e4
    exact hm.own id cs cp off sz e1 e2 b r e3 e4
  · have lt_imm : ∀ b o v, G.imm b o = some v → b < w.heap.size := fun b o v e => by
      have := hw.imm b o v e
      rcases Nat.lt_or_ge b w.heap.size with h | h
      · exact h
      · simp [World.cell?, Array.getElem?_eq_none h] at this
    have lt_ow : ∀ b o l, G.ow b o = some l → b < w.heap.size := fun b o l e => by
      have := (hw.owcell b o l e).1
      rcases Nat.lt_or_ge b w.heap.size with h | h
      · exact h
      · simp [World.cell?, Array.getElem?_eq_none h] at this
    exact { imm := fun b o v e => by rw [hb.cell (p := ⟨b, o, none⟩) (lt_imm b o v e)]; exact hw.imm b o v e, inj := hw.inj, linj := hw.linj, disj := hw.disj,
            boxlt := fun b h => Nat.lt_of_lt_of_le (hw.boxlt b h) hb.size, boximm := hw.boximm, boxow := hw.boxow, owimm := hw.owimm,
            owcell := fun b o l e => by rw [hb.cell (p := ⟨b, o, none⟩) (lt_ow b o l e), hb.frozen (p := ⟨b, o, none⟩) (lt_ow b o l e)]; exact hw.owcell b o l e, glob := hw.glob, old := Nat.le_trans hw.old hb.size }
  · exact { os := hb.os, tape := hb.tape, output := hb.output, size := hb.size, imm := fun _ _ _ e => e, bx := fun _ _ e => e,
            other := fun b o e _ _ => by rw [hk b (eI e)]; exact e,
            cells := fun b c t f e _ => ⟨c, f, by rw [hk b (eI e)]; exact e, rfl, fun _ _ => rfl, .inl rfl⟩,
            immNew := fun _ _ _ _ _ e => .inl e, owNew := fun b o l _ e => by rw [e]; rfl, boxNew := fun _ _ q => q, hid := rfl, old := rfl, bxNew := fun _ _ e => .inl e,
            loop := fun b L e => ⟨L, by rw [hk b (eI e)]; exact e⟩ }
theorem zr {m:IM}{v:IV}{r:Value}(hm:MR X G m w) (hw:WF X G w) (hv:VR G v r):iZ X G w m v r w:=⟨G,hm,hw,hv,Step.refl _ _⟩
theorem lK {f:FuncId}{p:List IV→Option IV}{e:Array Value→Sem Value}(hc:∀args w,(callFunc f args).run X.P w=((e args).run X.P w).andThen fun v w'=>.ok (.value v) w')
  (hp:∀args v,p args=some v→(∀id,IV.yld id∉args)∧∀G w rs,VRs G args rs→∃r,(e ⟨rs⟩).run X.P w=.ok r w∧VR G v r):POK X f p:=by
 intro args v h
 obtain⟨h1,h2⟩:=hp args v h
 refine⟨h1,fun G m w rs hm hw hl ha=>?_⟩
 obtain⟨r,e1,e2⟩:=h2 G w rs ha
 exact .inr ⟨r,w,by rw[hc,e1];rfl,zr hm hw e2⟩
theorem nr {f:FuncId}{p:List IV→Option IV}{fn:Func}(hf:X.P.funcs[f]?=some fn) (hb:fn.body.isNone=false) (hn:(fn.name == "runtime.NumGoroutine")=false)
  (hp:∀args v,p args=some v→(∀id,IV.yld id∉args)∧∀G w rs,VRs G args rs→Calls X.P f ⟨rs⟩ w fun e w'=>∃r,e=.returned r∧VR G v r∧Below w.heap.size w w'):POK X f p:=by
 intro args v h
 obtain⟨h1,h2⟩:=hp args v h
 refine⟨h1,fun G m w rs hm hw hl ha=>.inl ⟨?_,callsIn_wide.2 ((h2 G w rs ha).mono fun e w' ⟨r,q1,q2,q3⟩=>⟨r,q1,xh hm hw hl q2 q3⟩)⟩⟩
 have hpr:(program).run X.P w=.ok X.P w:=rfl
 have h1:fn.name ≠ "runtime.NumGoroutine" := by simpa using hn
 cases hbb:fn.body with
 |none=>rw[hbb] at hb;cases hb
 |some c=>simp[callFunc,hpr,hf,h1,hbb]
def xK (c:UInt8):List UInt8→Nat→Int
 |[],_=>-1
 |b::r,i=>match b==c with
  |true=>i
  |false=>xK c r (i+1)
theorem vH (c:UInt8):∀(l:List UInt8) (k:Nat),xK c l k=if Lib.indexByte l c=-1 then -1 else Lib.indexByte l c+k
 |[],k=>by simp[xK,Lib.indexByte]
 |b::l,k=>by
  simp only[xK,Lib.indexByte]
  by_cases h:(b==c)=true
  ·simp[h]
  ·have h':(b==c)=false:=by simpa using h
   simp only[h',Bool.false_eq_true,if_false]
   rw[vH c l (k+1)]
   by_cases h2:Lib.indexByte l c=-1
   ·simp[h2]
   ·have:=Lib.indexByte_ge l c
    have h3:¬Lib.indexByte l c+1=-1:=by omega
    simp[h2,h3]
    omega
def CU (c:UInt8):List UInt8→Nat
 |[]=>0
 |b::r=>match b==c with
  |true=>CU c r+1
  |false=>CU c r
theorem Ah (c:UInt8):∀l:List UInt8,CU c l=Lib.countByte l c
 |[]=>rfl
 |b::l=>by
  have:=Ah c l
  simp only[CU,Lib.countByte,List.count_cons] at this ⊢
  cases h:b==c<;>simp[this]
def pw:List UInt8→List UInt8→Int
 |[],[]=>0
 |[],_::_=>-1
 |_::_,[]=>1
 |a::x,b::y=>match Nat.blt a.toNat b.toNat with
  |true=>-1
  |false=>match Nat.blt b.toNat a.toNat with
   |true=>1
   |false=>pw x y
theorem Av:∀a b:List UInt8,pw a b=Lib.compareBytes a b
 |[],[]=>rfl
 |[],_::_=>rfl
 |_::_,[]=>rfl
 |a::x,b::y=>by
  simp only[pw,Lib.compareBytes]
  by_cases h:a<b
  ·have:Nat.blt a.toNat b.toNat=true:=by rw[Nat.blt_eq];exact h
   simp[this,h]
  ·have h1:Nat.blt a.toNat b.toNat=false:=by
    cases q:Nat.blt a.toNat b.toNat with
    |false=>rfl
    |true=>rw[Nat.blt_eq] at q;exact absurd q h
   by_cases h2:b<a
   ·have:Nat.blt b.toNat a.toNat=true:=by rw[Nat.blt_eq];exact h2
    simp[h1,this,h,h2]
   ·have h3:Nat.blt b.toNat a.toNat=false:=by
     cases q:Nat.blt b.toNat a.toNat with
     |false=>rfl
     |true=>rw[Nat.blt_eq] at q;exact absurd q h2
    simp[h1,h3,h,h2,Av x y]
def lV:List IV→Option IV
 |[.str s,.int .u8 c]=>some (.int .i64 (xK c.toNat.toUInt8 s 0))
 |_=>none
def mc:List IV→Option IV
 |[.str s,.int .u8 c]=>some (.int .i64 (CU c.toNat.toUInt8 s))
 |_=>none
def my:List IV→Option IV
 |[.str a,.str b]=>some (.int .i64 (pw a b))
 |_=>none
theorem kO {a b:IV}{rs:List Value}(h:VRs G [a,b] rs):∃x y,rs=[x,y]∧VR G a x∧VR G b y:=by
 obtain⟨x,r1,rfl,h1,h⟩:=h.cases_cons
 obtain⟨y,r2,rfl,h2,h⟩:=h.cases_cons
 rw[h.cases_nil]
 exact⟨x,y,rfl,h1,h2⟩
theorem sR {f:FuncId}(hc:∀args w,(callFunc f args).run X.P w=((Extern.BytealgIndexByte.indexByte args).run X.P w).andThen fun v w'=>.ok (.value v) w'):POK X f lV:=by
 refine lK hc fun args v h=>?_
 unfold lV at h
 split at h
 ·rename_i s c
  cases h
  refine⟨by simp,fun G w rs ha=>?_⟩
  obtain⟨x,y,rfl,h1,h2⟩:=kO ha
  cases h1;cases h2
  refine⟨_,Lib.run_indexByteString _ _ _,?_⟩
  have e:=vH c.toNat.toUInt8 s 0
  have:xK c.toNat.toUInt8 s 0=Lib.indexByte s c.toNat.toUInt8:=by
   rw[e];split
   ·rename_i q;exact q.symm
   ·simp
  rw[this]
  exact .int _ _
 ·cases h
theorem sT {f:FuncId}(hc:∀args w,(callFunc f args).run X.P w=((Extern.BytealgCount.count args).run X.P w).andThen fun v w'=>.ok (.value v) w'):POK X f mc:=by
 refine lK hc fun args v h=>?_
 unfold mc at h
 split at h
 ·rename_i s c
  cases h
  refine⟨by simp,fun G w rs ha=>?_⟩
  obtain⟨x,y,rfl,h1,h2⟩:=kO ha
  cases h1;cases h2
  refine⟨_,Lib.run_countString _ _ _,?_⟩
  rw[Ah]
  exact .int _ _
 ·cases h
theorem wj {f:FuncId}(hc:∀args w,(callFunc f args).run X.P w=((Extern.BytealgCompare.compare args).run X.P w).andThen fun v w'=>.ok (.value v) w'):POK X f my:=by
 refine lK hc fun args v h=>?_
 unfold my at h
 split at h
 ·rename_i a b
  cases h
  refine⟨by simp,fun G w rs ha=>?_⟩
  obtain⟨x,y,rfl,h1,h2⟩:=kO ha
  cases h1;cases h2
  refine⟨_,Lib.run_compareString _ _ _,?_⟩
  rw[Av]
  exact .int _ _
 ·cases h
def kd (s:List UInt8):Nat→List UInt8
 |0=>[]
 |n+1=>s++kd s n
def mJ:List IV→Option IV
 |[.str s,.int .i64 n]=>match decide (0≤n)&&Nat.ble n.toNat 9223372036854775807&&Nat.ble (s.length*n.toNat) 140737488355328 with
  |true=>some (.str (kd s n.toNat))
  |false=>none
 |_=>none
def r8:List UInt8→Bool
 |[]=>true
 |b::r=>Nat.blt b.toNat 128&&r8 r
theorem qJ:∀{l:List UInt8},r8 l=true→∀(j:Nat) b,l[j]?=some b→b.toNat<128
 |[],_,j,b,h=>by simp at h
 |c::l,h,j,b,hb=>by
  simp only[r8,Bool.and_eq_true,Nat.blt_eq] at h
  cases j with
  |zero=>simp only[List.getElem?_cons_zero,Option.some.injEq] at hb;subst hb;exact h.1
  |succ j=>exact qJ h.2 j b (by simpa using hb)
def HM (c:UInt8):List UInt8→Bool
 |[]=>false
 |b::r=>Nat.beq b.toNat c.toNat||HM c r
def kD (cs:List UInt8):List UInt8→Nat→Int
 |[],_=>-1
 |b::r,i=>match HM b cs with
  |true=>i
  |false=>kD cs r (i+1)
def nG:List IV→Option IV
 |[.str s,.str cs]=>match r8 s&&r8 cs&&Nat.blt s.length 4294967281&&Nat.blt cs.length 4294967281 with
  |true=>some (.int .i64 (kD cs s 0))
  |false=>none
 |_=>none
theorem zF (s:List UInt8):∀n,kd s n=Lib.repeatL s n
 |0=>rfl
 |n+1=>by simp[kd,Lib.repeatL,zF s n]
theorem zd {f:FuncId}{fn:Func}(hf:X.P.funcs[f]?=some fn) (hb:fn.body.isNone=false) (hn:(fn.name == "runtime.NumGoroutine")=false)
  (hc:∀(s:ByteArray) (c:Nat) (w:World),c≤9223372036854775807→s.size*c≤140737488355328 →
   Calls X.P f #[.string s,.int .i64 c] w fun e w'=>e=.returned (.string ⟨(Lib.repeatL s.data.toList c).toArray⟩)∧Below w.heap.size w w'):POK X f mJ:=by
 refine nr hf hb hn fun args v h=>?_
 unfold mJ at h
 split at h
 ·rename_i s n
  split at h
  ·rename_i hcond
   cases h
   simp only[Bool.and_eq_true,decide_eq_true_eq] at hcond
   obtain⟨⟨h0,h1⟩,h2⟩:=hcond
   refine⟨by simp,fun G w rs ha=>?_⟩
   obtain⟨x,y,rfl,k1,k2⟩:=kO ha
   cases k1;cases k2
   have hn:n=(n.toNat:Int):=by omega
   rw[hn]
   refine (hc ⟨⟨s⟩⟩ n.toNat w (Nat.le_of_ble_eq_true h1) (Nat.le_of_ble_eq_true h2)).mono fun e w' ⟨q1,q2⟩=>⟨_,q1,?_,q2⟩
   rw[Int.toNat_natCast,zF]
   exact .str _
  ·cases h
 ·cases h
theorem AF (c:UInt8):∀l:List UInt8,HM c l=l.contains c
 |[]=>rfl
 |b::l=>by
  rw[HM,List.contains_cons,AF c l]
  congr 1
  by_cases h:c=b
  ·subst h;simp
  ·have:b.toNat≠c.toNat:=fun e=>h (UInt8.toNat_inj.1 e.symm)
   have hb:Nat.beq b.toNat c.toNat=false:=by
    cases q:Nat.beq b.toNat c.toNat with
    |false=>rfl
    |true=>exact absurd (Nat.eq_of_beq_eq_true q) this
   rw[hb]
   simp[h]
theorem sy (cs:List UInt8):∀(l:List UInt8) (k:Nat),kD cs l k=if Lib.indexAny l cs=-1 then -1 else Lib.indexAny l cs+k
 |[],k=>by simp[kD,Lib.indexAny]
 |b::l,k=>by
  simp only[kD,Lib.indexAny]
  rw[AF]
  by_cases h:cs.contains b=true
  ·simp only[h,if_true];simp
  ·have h':cs.contains b=false:=by simpa using h
   simp only[h',Bool.false_eq_true,if_false]
   rw[sy cs l (k+1)]
   by_cases h2:Lib.indexAny l cs=-1
   ·simp[h2]
   ·have:=Lib.indexAny_ge cs l
    have h3:¬Lib.indexAny l cs+1=-1:=by omega
    simp[h2,h3]
    omega
theorem uJ {f:FuncId}{fn:Func}(hf:X.P.funcs[f]?=some fn) (hb:fn.body.isNone=false) (hn:(fn.name == "runtime.NumGoroutine")=false)
  (hc:∀(s chars:ByteArray) (w:World),s.size<4294967281→chars.size<4294967281→(∀(j:Nat) b,s.data.toList[j]?=some b→b.toNat<128)→(∀(j:Nat) b,chars.data.toList[j]?=some b→b.toNat<128) →
   Calls X.P f #[.string s,.string chars] w fun e w'=>e=.returned (.int .i64 (Lib.indexAny s.data.toList chars.data.toList))∧Below w.heap.size w w'):POK X f nG:=by
 refine nr hf hb hn fun args v h=>?_
 unfold nG at h
 split at h
 ·rename_i s cs
  split at h
  ·rename_i hcond
   cases h
   simp only[Bool.and_eq_true,Nat.blt_eq] at hcond
   obtain⟨⟨⟨h1,h2⟩,h3⟩,h4⟩:=hcond
   refine⟨by simp,fun G w rs ha=>?_⟩
   obtain⟨x,y,rfl,k1,k2⟩:=kO ha
   cases k1;cases k2
   refine (hc ⟨⟨s⟩⟩ ⟨⟨cs⟩⟩ w h3 h4 (qJ h1) (qJ h2)).mono fun e w' ⟨q1,q2⟩=>⟨_,q1,?_,q2⟩
   have e1:=sy cs s 0
   have:kD cs s 0=Lib.indexAny s cs:=by
    rw[e1];split
    ·rename_i q;exact q.symm
    ·simp
   rw[this]
   exact .int _ _
  ·cases h
 ·cases h
def uG:List IV→Option IV
 |[.str s,.str [c]]=>some (.int .i64 (xK c s 0))
 |_=>none
theorem zw {f:FuncId}{fn:Func}(hf:X.P.funcs[f]?=some fn) (hb:fn.body.isNone=false) (hn:(fn.name == "runtime.NumGoroutine")=false)
  (hc:∀(s:ByteArray) (c:UInt8) (w:World),Calls X.P f #[.string s,.string ⟨#[c]⟩] w fun e w'=>e=.returned (.int .i64 (Lib.indexByte s.data.toList c))∧w'=w):POK X f uG:=by
 refine nr hf hb hn fun args v h=>?_
 unfold uG at h
 split at h
 ·rename_i s c
  cases h
  refine⟨by simp,fun G w rs ha=>?_⟩
  obtain⟨x,y,rfl,h1,h2⟩:=kO ha
  cases h1;cases h2
  have e:=vH c s 0
  have e':xK c s 0=Lib.indexByte s c:=by
   rw[e];split
   ·rename_i q;exact q.symm
   ·simp
  refine (hc ⟨⟨s⟩⟩ c w).mono fun e w' ⟨q1,q2⟩=>⟨_,q1,?_,by subst q2;exact Below.refl _ _⟩
  rw[e']
  exact .int _ _
 ·cases h
end Go.Idl
