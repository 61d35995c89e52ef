/- This text proves that a reckoned check of the code suffices, gives the equations of runs without a bound, and proves what the taken library functions return; it has no conditions. -/
import Derived.Test.YtbpnjicaapldoaaGreatDoorIdd
import Derived.Test.YtbpnjicaapldoaaGreatDoorIda
import Derived.Lib.Bytealg
import Derived.Lib.Repeat
import Derived.Lib.IndexAny
import Derived.Lib.SlTrimSet
import Derived.Lib.Atoi
import Derived.Below
import Derived.Laws.Externs
set_option linter.unusedSimpArgs false
set_option linter.unusedVariables false
namespace Go.Idl
mutual
def ckV:Nat→IV→Value→Bool
 |0,_,_=>false
 |n+1,x,v=>match x,v with
  |.bool b,.bool c=>b==c
  |.int k i,.int k' i'=>decide (k=k')&&decide (i=i')
  |.float k b,.float k' b'=>decide (k=k')&&Nat.beq b b'
  |.cplx k a b,.complex k' a' b'=>decide (k=k')&&Nat.beq a a'&&Nat.beq b b'
  |.str s,.string t=>decide (s=t.data.toList)
  |.nilPtr,.pointer none=>true
  |.nilSlice,.slice none 0 0=>true
  |.nilMap,.map none=>true
  |.nilFunc,.nilFunc=>true
  |.nilIface,.nilIface=>true
  |.func f [] [],.func (.func g) a b=>Nat.beq f g&&a.toList.isEmpty&&b.toList.isEmpty
  |.agg cs,.agg rc=>ckVs n cs rc.toList
  |.tup cs,.tuple rc=>ckVs n cs rc.toList
  |.iface t x,.iface u v=>Nat.beq t u&&ckV n x v
  |_,_=>false
def ckVs:Nat→List IV→List Value→Bool
 |0,_,_=>false
 |n+1,cs,rc=>match cs,rc with
  |[],[]=>true
  |x::xs,v::vs=>ckV n x v&&ckVs n xs vs
  |_,_=>false
end
theorem beqI {i j:Nat}(h:Nat.beq i j=true):i=j:=Nat.eq_of_beq_eq_true h
mutual
theorem ckV_sound:∀(n:Nat) (x:IV) (v:Value),ckV n x v=true→∀G,VR G x v
 |0,_,_,h=>by simp[ckV] at h
 |n+1,x,v,h=>by
  intro G
  simp only[ckV] at h
  split at h
  ·simp only[beq_iff_eq] at h;subst h;exact .bool _
  ·simp only[Bool.and_eq_true,decide_eq_true_eq] at h;obtain⟨rfl,rfl⟩:=h;exact .int _ _
  ·simp only[Bool.and_eq_true,decide_eq_true_eq] at h;obtain⟨rfl,h⟩:=h;rw[beqI h];exact .float _ _
  ·simp only[Bool.and_eq_true,decide_eq_true_eq] at h;obtain⟨⟨rfl,h1⟩,h2⟩:=h;rw[beqI h1,beqI h2];exact .cplx _ _ _
  ·rename_i s t
   simp only[decide_eq_true_eq] at h
   obtain⟨⟨l⟩⟩:=t
   simp only at h
   subst h
   exact .str _
  ·exact .nilPtr
  ·exact .nilSlice
  ·exact .nilMap
  ·exact .nilFunc
  ·exact .nilIface
  ·rename_i f g a b
   simp only[Bool.and_eq_true,List.isEmpty_iff] at h
   obtain⟨⟨h1,h2⟩,h3⟩:=h
   rw[beqI h1]
   obtain⟨a⟩:=a
   obtain⟨b⟩:=b
   simp only at h2 h3
   subst h2;subst h3
   exact .func _ [] [] [] [] rfl rfl (fun i h=>absurd h (by simp)) (fun i h=>absurd h (by simp))
  ·rename_i cs rc
   obtain⟨rc⟩:=rc
   exact VR.agg' (ckVs_sound n cs rc h G)
  ·rename_i cs rc
   obtain⟨rc⟩:=rc
   exact VR.tup' (ckVs_sound n cs rc h G)
  ·simp only[Bool.and_eq_true] at h
   rw[beqI h.1]
   exact .iface _ _ _ (ckV_sound n _ _ h.2 G)
  ·cases h
theorem ckVs_sound:∀(n:Nat) (xs:List IV) (vs:List Value),ckVs n xs vs=true→∀G,VRs G xs vs
 |0,_,_,h=>by simp[ckVs] at h
 |n+1,xs,vs,h=>by
  intro G
  simp only[ckVs] at h
  split at h
  ·exact VRs.nil
  ·simp only[Bool.and_eq_true] at h
   exact VRs.cons (ckV_sound n _ _ h.1 G) (ckVs_sound n _ _ h.2 G)
  ·cases h
end
def eqV:IV→IV→Bool
 |.bool b,.bool c=>b==c
 |.int k i,.int k' i'=>decide (k=k')&&decide (i=i')
 |.str s,.str t=>decide (s=t)
 |.nilPtr,.nilPtr=>true
 |.nilSlice,.nilSlice=>true
 |.func f [] [],.func g [] []=>Nat.beq f g
 |.nilFunc,.nilFunc=>true
 |_,_=>false
def eqVs:List IV→List IV→Bool
 |[],[]=>true
 |x::xs,y::ys=>eqV x y&&eqVs xs ys
 |_,_=>false
theorem eqV_sound {x y:IV}(h:eqV x y=true):x=y:=by
 unfold eqV at h
 split at h<;>first | rfl | (cases h;done) | skip
 ·simp only[beq_iff_eq] at h;rw[h]
 ·simp only[Bool.and_eq_true,decide_eq_true_eq] at h;obtain⟨rfl,rfl⟩:=h;rfl
 ·simp only[decide_eq_true_eq] at h;rw[h]
 ·rw[beqI h]
theorem eqVs_sound:∀{xs ys:List IV},eqVs xs ys=true→xs=ys
 |[],[],_=>rfl
 |x::xs,y::ys,h=>by
  simp only[eqVs,Bool.and_eq_true] at h
  rw[eqV_sound h.1,eqVs_sound h.2]
 |[],_::_,h=>by simp[eqVs] at h
 |_::_,[],h=>by simp[eqVs] at h
section
variable (P:Program) (rows:Nat→Option (List IV))
def ckArg:Operand→Arg→Bool
 |.tmp i,.t j=>Nat.beq i j
 |.const v,.c x=>ckV 20000 x v
 |.global g,.c (.pI row 0)=>match rows g with
  |some r=>eqVs r row
  |none=>false
 |.func f,.c (.func g [] [])=>Nat.beq f g
 |_,_=>false
def ckArgs:List Operand→List Arg→Bool
 |[],[]=>true
 |x::xs,a::as=>ckArg rows x a&&ckArgs xs as
 |_,_=>false
variable {rows}
theorem ckArg_sound {x:Operand}{a:Arg}(h:ckArg rows x a=true):ArgR rows x a:=by
 unfold ckArg at h
 split at h
 ·rw[beqI h];exact .tmp _
 ·exact .const _ _ (ckV_sound _ _ _ h)
 ·split at h
  ·rename_i r hr
   rw[←eqVs_sound h]
   exact .glob _ _ hr
  ·cases h
 ·rw[beqI h];exact .func _
 ·cases h
theorem ckArgs_sound:∀{xs:List Operand}{as:List Arg},ckArgs rows xs as=true→ArgsR rows xs as
 |[],[],_=>.nil
 |x::xs,a::as,h=>by
  simp only[ckArgs,Bool.and_eq_true] at h
  exact .cons (ckArg_sound h.1) (ckArgs_sound h.2)
 |[],_::_,h=>by simp[ckArgs] at h
 |_::_,[],h=>by simp[ckArgs] at h
end
def isAggD:TypeDesc→Bool
 |.struct _ | .array _ _=>true
 |_=>false
def ckTy (P:Program) (t:TypeId) (n:Nat) (agg:Bool):Bool :=
 match P.underlying t,P.info? t with
 |some d,some i=>Nat.beq i.size n&&(agg==isAggD d)&&(agg||Nat.beq n 1)
 |_,_=>false
theorem ckTy_sound {P:Program}{t:TypeId}{n:Nat}{agg:Bool}(h:ckTy P t n agg=true):∃d bytes,TyR P t d n bytes agg∧∃i,P.info? t=some i∧i.bytes=bytes:=by
 unfold ckTy at h
 split at h
 ·rename_i d i e1 e2
  simp only[Bool.and_eq_true,beq_iff_eq,Bool.or_eq_true] at h
  obtain⟨⟨h1,h2⟩,h3⟩:=h
  refine⟨d,i.bytes,⟨e1,⟨i,e2,beqI h1,rfl⟩,by rw[h2];cases d<;>rfl,fun ha=>?_⟩,i,e2,rfl⟩
  rcases h3 with q | q
  ·rw[ha] at q;cases q
  ·exact beqI q
 ·cases h
def szOf (P:Program) (t:TypeId):Nat:=match P.info? t with | some i=>i.size | none=>0
def bytesOf (P:Program) (t:TypeId):Nat:=match P.info? t with | some i=>i.bytes | none=>0
def aggOf (P:Program) (t:TypeId):Bool:=match P.underlying t with | some d=>isAggD d | none=>false
def okTy (P:Program) (t:TypeId):Bool:=ckTy P t (szOf P t) (aggOf P t)
def ckZero (P:Program) (t:TypeId) (zero:List IV):Bool :=
 match P.info? t with
 |some i=>match i.zero with
  |some v=>Nat.beq i.size zero.length&&ckVs 20000 zero v.cells.toList
  |none=>false
 |none=>false
theorem ckZero_sound {P:Program}{t:TypeId}{zero:List IV}(h:ckZero P t zero=true):ZeroR P t zero:=by
 unfold ckZero at h
 split at h
 ·rename_i i ei
  split at h
  ·rename_i v ev
   simp only[Bool.and_eq_true] at h
   have hv:=ckVs_sound _ _ _ h.2
   exact⟨i,v,ei,ev,(hv ⟨fun _ _=>none,fun _=>none,fun _=>none,fun _ _=>none,fun _=>false,0⟩).1,beqI h.1,hv⟩
  ·cases h
 ·cases h
def ckDesc:EqD→TypeDesc→Bool
 |.bool,.bool=>true
 |.int,.int _=>true
 |.str,.string=>true
 |.float,.float _=>true
 |.ptr,.pointer _=>true
 |.slice,.slice _=>true
 |.func,.func ..=>true
 |.map,.map ..=>true
 |_,_=>false
theorem ckDesc_sound {e:EqD}{d:TypeDesc}(h:ckDesc e d=true):eqDesc e d:=by
 cases e<;>cases d<;>first | trivial | cases h
def ckKey:EqD→TypeDesc→Bool
 |.bool,.bool=>true
 |.int,.int _=>true
 |.str,.string=>true
 |_,_=>false
theorem ckKey_sound {e:EqD}{d:TypeDesc}(h:ckKey e d=true):keyDesc e d:=by
 cases e<;>cases d<;>first | trivial | cases h
def eqPairs:List (Nat×Nat)→List (Nat×Nat)→Bool
 |[],[]=>true
 |(a,b)::r,(c,d)::s=>Nat.beq a c&&Nat.beq b d&&eqPairs r s
 |_,_=>false
theorem eqPairs_sound:∀{r s:List (Nat×Nat)},eqPairs r s=true→r=s
 |[],[],_=>rfl
 |(a,b)::r,(c,d)::s,h=>by
  simp only[eqPairs,Bool.and_eq_true] at h
  rw[beqI h.1.1,beqI h.1.2,eqPairs_sound h.2]
 |[],_::_,h=>by simp[eqPairs] at h
 |_::_,[],h=>by simp[eqPairs] at h
def isStrT (P:Program) (t:TypeId):Bool:=match P.underlying t with | some .string=>true | _=>false
def isIntT (P:Program) (t:TypeId):Option IntKind:=match P.underlying t with | some (.int k)=>some k | _=>none
def elemT (P:Program) (t:TypeId):Option TypeId:=match P.underlying t with | some (.slice e)=>some e | _=>none
def isByteT (P:Program) (t:TypeId):Bool:=match P.underlying t with | some (.int .u8)=>true | _=>false
def arrT (P:Program) (t:TypeId):Option (Nat×TypeId):=match P.underlying t with | some (.array n e)=>some (n,e) | _=>none
def structT (P:Program) (t:TypeId):Option (Array Field):=match P.underlying t with | some (.struct f)=>some f | _=>none
def ptrT (P:Program) (t:TypeId):Option TypeId:=match P.underlying t with | some (.pointer e)=>some e | _=>none
def mapT (P:Program) (t:TypeId):Option (TypeId×TypeId):=match P.underlying t with | some (.map k e)=>some (k,e) | _=>none
theorem isStrT_s {P:Program}{t:TypeId}(h:isStrT P t=true):P.underlying t=some .string:=by
 unfold isStrT at h;split at h<;>first | assumption | cases h
theorem isIntT_s {P:Program}{t:TypeId}{k:IntKind}(h:isIntT P t=some k):P.underlying t=some (.int k):=by
 unfold isIntT at h;split at h<;>first | (cases h;assumption) | cases h
theorem elemT_s {P:Program}{t e:TypeId}(h:elemT P t=some e):P.underlying t=some (.slice e):=by
 unfold elemT at h;split at h<;>first | (cases h;assumption) | cases h
theorem isByteT_s {P:Program}{t:TypeId}(h:isByteT P t=true):P.underlying t=some (.int .u8):=by
 unfold isByteT at h;split at h<;>first | assumption | cases h
theorem arrT_s {P:Program}{t:TypeId}{n:Nat}{e:TypeId}(h:arrT P t=some (n,e)):P.underlying t=some (.array n e):=by
 unfold arrT at h;split at h<;>first | (cases h;assumption) | cases h
theorem structT_s {P:Program}{t:TypeId}{f:Array Field}(h:structT P t=some f):P.underlying t=some (.struct f):=by
 unfold structT at h;split at h<;>first | (cases h;assumption) | cases h
theorem ptrT_s {P:Program}{t e:TypeId}(h:ptrT P t=some e):P.underlying t=some (.pointer e):=by
 unfold ptrT at h;split at h<;>first | (cases h;assumption) | cases h
theorem mapT_s {P:Program}{t k e:TypeId}(h:mapT P t=some (k,e)):P.underlying t=some (.map k e):=by
 unfold mapT at h;split at h<;>first | (cases h;assumption) | cases h
def okFields (P:Program):List Field→Bool
 |[]=>true
 |f::r=>okTy P f.type&&okFields P r
theorem okFields_get {P:Program}:∀{l:List Field},okFields P l=true→∀(j:Nat) f,l[j]?=some f→okTy P f.type=true
 |[],_,j,f,h=>by simp at h
 |g::l,h,j,f,hf=>by
  simp only[okFields,Bool.and_eq_true] at h
  cases j with
  |zero=>simp only[List.getElem?_cons_zero,Option.some.injEq] at hf;subst hf;exact h.1
  |succ j=>exact okFields_get h.2 j f (by simpa using hf)
def partsS (P:Program) (fields:List Field):List (Nat×Operand)→Option (List (Nat×Nat))
 |[]=>some []
 |p::r=>match fields[p.1]?,partsS P fields r with
  |some f,some l=>some ((f.offset,szOf P f.type)::l)
  |_,_=>none
theorem partsS_sound {P:Program}{fields:Array Field}:∀{ps:List (Nat×Operand)}{l:List (Nat×Nat)},partsS P fields.toList ps=some l →
  l=ps.map (fun p=>(((fields[p.1]?).map (·.offset)).getD 0,(((fields[p.1]?).map fun f=>szOf P f.type).getD 0)))∧∀p∈ps,p.1<fields.size
 |[],l,h=>by simp only[partsS,Option.some.injEq] at h;subst h;simp
 |p::r,l,h=>by
  simp only[partsS] at h
  split at h
  ·rename_i f l' e1 e2
   simp only[Option.some.injEq] at h
   subst h
   obtain⟨h1,h2⟩:=partsS_sound e2
   have e1':fields[p.1]?=some f:=by simpa using e1
   refine⟨by rw[List.map_cons,←h1,e1'];rfl,fun q hq=>?_⟩
   rcases List.mem_cons.1 hq with rfl | hq
   ·exact (Array.getElem?_eq_some_iff.1 e1').1
   ·exact h2 q hq
  ·cases h
end Go.Idl
namespace Go.Idl
theorem tyR_at {P:Program}{t:TypeId}{d:TypeDesc}{n:Nat}{agg:Bool}(hu:P.underlying t=some d) (h:ckTy P t n agg=true):∃bytes,TyR P t d n bytes agg∧bytesOf P t=bytes:=by
 obtain⟨d',bytes,ht,i,h1,h2⟩:=ckTy_sound h
 have:=ht.und
 rw[hu] at this
 cases this
 exact⟨bytes,ht,by simp[bytesOf,h1,h2]⟩
theorem okTy_sound {P:Program}{t:TypeId}(h:okTy P t=true):∃d b,TyR P t d (szOf P t) b (aggOf P t):=by
 obtain⟨d,b,ht,-⟩:=ckTy_sound h
 exact⟨d,b,ht⟩
def when {α:Type}(b:Bool) (x:α):Option α:=match b with | true=>some x | false=>none
theorem when_s {α:Type}{b:Bool}{x y:α}(h:when b x=some y):b=true∧x=y:=by
 unfold when at h;split at h<;>first | (cases h;exact⟨rfl,rfl⟩) | cases h
def optB {α:Type}(o:Option α) (b:Bool):Bool:=o.isSome==b
def bcall:Op→Option (Builtin×List Operand×List TypeId)
 |.call ⟨.builtin b,xs,ts⟩=>some (b,xs.toList,ts.toList)
 |_=>none
theorem bcall_s {op:Op}{b:Builtin}{xs:List Operand}{ts:List TypeId}(h:bcall op=some (b,xs,ts)):op=.call ⟨.builtin b,⟨xs⟩,⟨ts⟩⟩:=by
 unfold bcall at h
 split at h
 ·rename_i b' xs' ts'
  obtain⟨xs'⟩:=xs'
  obtain⟨ts'⟩:=ts'
  cases h;rfl
 ·cases h
def ckPlan (P:Program):List Field→List (Nat×EqD)→Bool
 |[],[]=>true
 |f::fs,(o,d)::plan=>!(f.name == "_")&&Nat.beq o f.offset&&(match P.underlying f.type with | some d'=>ckDesc d d' | none=>false)&&ckTy P f.type (szOf P f.type) false&&ckPlan P fs plan
 |_,_=>false
theorem ckPlan_sound {P:Program}:∀{fs:List Field}{plan:List (Nat×EqD)},ckPlan P fs plan=true→PlanR P fs plan
 |[],[],_=>.nil
 |f::fs,(o,d)::plan,h=>by
  simp only[ckPlan,Bool.and_eq_true,Bool.not_eq_true'] at h
  obtain⟨⟨⟨⟨h1,h2⟩,h3⟩,h4⟩,h5⟩:=h
  rw[beqI h2]
  split at h3
  ·rename_i d' e
   obtain⟨b,q,-⟩:=tyR_at e h4
   exact .cons (by simpa using h1) q (ckDesc_sound h3) (ckPlan_sound h5)
  ·cases h3
 |[],_::_,h=>by simp[ckPlan] at h
 |_::_,[],h=>by simp[ckPlan] at h
def ckRow (ed:EqD):Nat→Nat→List (Nat×EqD)→Bool
 |_,0,[]=>true
 |i,n+1,(j,d)::r=>Nat.beq i j&&decide (ed=d)&&ckRow ed (i+1) n r
 |_,_,_=>false
theorem ckRow_sound {ed:EqD}:∀{n i:Nat}{plan:List (Nat×EqD)},ckRow ed i n plan=true→plan=(List.range' i n).map fun i=>(i,ed)
 |0,i,[],_=>rfl
 |n+1,i,(j,d)::r,h=>by
  simp only[ckRow,Bool.and_eq_true,decide_eq_true_eq] at h
  obtain⟨⟨h1,h2⟩,h3⟩:=h
  rw[List.range'_succ,List.map_cons,←ckRow_sound h3,←h2,beqI h1]
 |0,i,_::_,h=>by simp[ckRow] at h
 |_+1,i,[],h=>by simp[ckRow] at h
def ckP (P:Program) (op:Op):POp→Option (List Operand)
 |.pick=>match op with | .pick c a b=>some [c,a,b] | _=>none
 |.build zero parts=>match op with
  |.build t ps=>match structT P t with
   |some fields=>match partsS P fields.toList ps.toList with
    |some l=>when (eqPairs parts l&&ckZero P t zero&&okFields P fields.toList&&ckTy P t (szOf P t) true) (ps.toList.map (·.2))
    |none=>none
   |none=>match arrT P t with
    |some (_,e)=>when (eqPairs parts (ps.toList.map fun p=>(p.1*szOf P e,szOf P e))&&ckZero P t zero&&okTy P e&&ckTy P t (szOf P t) true) (ps.toList.map (·.2))
    |none=>none
  |_=>none
 |.nilCheck=>match op with | .nilCheck x=>some [x] | _=>none
 |.bin o=>match op with | .binOp o' _ x y _=>when (decide (o'=o)) [x,y] | _=>none
 |.eq neg d=>match op with
  |.binOp o t x y _=>match P.underlying t with
   |some d'=>when ((if neg then decide (o=.neq) else decide (o=.eql))&&okTy P t&&ckDesc d d') [x,y]
   |none=>none
  |_=>none
 |.eqAgg neg plan=>match op with
  |.binOp o t x y _=>match structT P t with
   |some fields=>when ((if neg then decide (o=.neq) else decide (o=.eql)) && !P.stoodInHeld t && !P.eqGuardType P.depth t&&ckPlan P fields.toList plan) [x,y]
   |none=>match arrT P t,plan with
    |some (len,e),(_,ed)::_=>match P.underlying e with
     |some d=>when ((if neg then decide (o=.neq) else decide (o=.eql)) && !P.eqGuardType P.depth t&&ckDesc ed d&&ckTy P e 1 false&&ckRow ed 0 len plan) [x,y]
     |none=>none
    |_,_=>none
  |_=>none
 |.un o=>match op with | .unOp o' _ x=>when (decide (o'=o)) [x] | _=>none
 |.convInt k=>match op with | .convert s d x=>when ((isIntT P s).isSome&&decide (isIntT P d=some k)) [x] | _=>none
 |.convStr=>match op with | .convert s d x=>when (isStrT P s&&isStrT P d) [x] | _=>none
 |.intStr=>match op with | .convert s d x=>when ((isIntT P s).isSome&&isStrT P d) [x] | _=>none
 |.bytesStr=>match op with
  |.convert s d x=>match elemT P s with
   |some e=>when (isByteT P e&&isStrT P d) [x]
   |none=>none
  |_=>none
 |.mkIface t=>match op with
  |.makeInterface t' x=>match P.underlying t' with
   |some d=>when (Nat.beq t t'&&(match d with | .interface _=>false | _=>true)) [x]
   |none=>none
  |_=>none
 |.mkFunc f n=>match op with
  |.makeFunc (.func f') first cap=>when (Nat.beq f f'&&Nat.beq n first.size) (first.toList++cap.toList)
  |_=>none
 |.fieldAddr off=>match op with
  |.fieldAddr t x i=>match structT P t with
   |some fields=>match fields[i]? with
    |some fd=>when (Nat.beq off fd.offset&&okTy P fd.type && !Nat.beq (szOf P fd.type) 0) [x]
    |none=>none
   |none=>none
  |_=>none
 |.field agg off n=>match op with
  |.field t x i=>match structT P t with
   |some fields=>match fields[i]? with
    |some fd=>when (Nat.beq off fd.offset&&ckTy P fd.type n agg) [x]
    |none=>none
   |none=>none
  |_=>none
 |.indexA len sz=>match op with
  |.indexAddr t x i=>match arrT P t with
   |some (l,e)=>when (Nat.beq len l&&Nat.beq sz (szOf P e)&&okTy P e) [x,i]
   |none=>none
  |_=>none
 |.indexS sz=>match op with
  |.indexAddr t x i=>match elemT P t with
   |some e=>when (Nat.beq sz (szOf P e)&&okTy P e) [x,i]
   |none=>none
  |_=>none
 |.idxArr len agg n=>match op with
  |.index t x i=>match arrT P t with
   |some (l,e)=>when (Nat.beq len l&&ckTy P e n agg) [x,i]
   |none=>none
  |_=>none
 |.idxStr=>match op with | .index t x i=>when (isStrT P t) [x,i] | _=>none
 |.sliceS sz lo hi=>match op with
  |.slice t x l h none=>match elemT P t with
   |some e=>when (Nat.beq sz (szOf P e)&&okTy P e&&optB l lo&&optB h hi) (x::locOps l h)
   |none=>none
  |_=>none
 |.sliceStr lo hi=>match op with
  |.slice t x l h none=>when (isStrT P t&&optB l lo&&optB h hi) (x::locOps l h)
  |_=>none
 |.sliceA len sz lo hi=>match op with
  |.slice t x l h none=>match arrT P t with
   |some (n,e)=>when (Nat.beq len n&&Nat.beq sz (szOf P e)&&okTy P e&&optB l lo&&optB h hi) (x::locOps l h)
   |none=>none
  |_=>none
 |.extract i=>match op with | .extract x j=>when (Nat.beq i j) [x] | _=>none
 |.lenStr=>match bcall op with
  |some (.len,[x],[t])=>when (isStrT P t) [x]
  |_=>none
 |.lenSlice=>match bcall op with
  |some (.len,[x],[t])=>when ((elemT P t).isSome) [x]
  |_=>none
 |.lenArr n=>match bcall op with
  |some (.len,[x],[t])=>match arrT P t with
   |some (m,_)=>when (Nat.beq n m) [x]
   |none=>match ptrT P t with
    |some a=>match arrT P a with
     |some (m,_)=>when (Nat.beq n m) [x]
     |none=>none
    |none=>none
  |_=>none
 |.min=>match bcall op with | some (.min,xs,_)=>some xs | _=>none
 |.max=>match bcall op with | some (.max,xs,_)=>some xs | _=>none
theorem ckP_sound {P:Program}{op:Op}{po:POp}{xs:List Operand}(h:ckP P op po=some xs):PR P op po xs:=by
 unfold ckP at h
 split at h
 ·split at h<;>first | (cases h;exact .pick _ _ _) | cases h
 ·split at h
  ·rename_i zero parts _ t ps
   split at h
   ·rename_i fields e1
    split at h
    ·rename_i l e2
     obtain⟨g,e⟩:=when_s h;clear h;subst e;have h:=g
     simp only[Bool.and_eq_true] at h
     obtain⟨⟨⟨h1,h2⟩,h3⟩,h4⟩:=h
     obtain⟨b,ht,-⟩:=tyR_at (structT_s e1) h4
     obtain⟨k1,k2⟩:=partsS_sound e2
     refine .build t ps zero parts _ b fields (fun j=>((fields[j]?).map fun f=>szOf P f.type).getD 0) ht (ckZero_sound h2) (fun j f hf=>?_) ((eqPairs_sound h1).trans k1) k2
     obtain⟨d,b',q⟩:=okTy_sound (okFields_get h3 j f (by simpa using hf))
     exact⟨d,b',_,by rw[hf];exact q⟩
    ·cases h
   ·split at h
    ·rename_i len e e2
     obtain⟨g,e⟩:=when_s h;clear h;subst e;have h:=g
     simp only[Bool.and_eq_true] at h
     obtain⟨⟨⟨h1,h2⟩,h3⟩,h4⟩:=h
     obtain⟨b,ht,-⟩:=tyR_at (arrT_s e2) h4
     obtain⟨d,b',q⟩:=okTy_sound h3
     exact .buildA t ps zero parts _ b len e (szOf P e) d b' _ ht (ckZero_sound h2) q (eqPairs_sound h1)
    ·cases h
  ·cases h
 ·split at h<;>first | (cases h;exact .nilCheck _) | cases h
 ·split at h
  ·obtain⟨g,e⟩:=when_s h;clear h;subst e;have h:=g
   simp only[decide_eq_true_eq] at h
   subst h
   exact .bin _ _ _ _ _
  ·cases h
 ·split at h
  ·rename_i neg d _ o t x y u
   split at h
   ·rename_i d' e1
    obtain⟨g,e⟩:=when_s h;clear h;subst e;have h:=g
    simp only[Bool.and_eq_true] at h
    obtain⟨⟨h1,h2⟩,h3⟩:=h
    obtain⟨b,ht,-⟩:=tyR_at e1 h2
    cases neg with
    |true=>simp only[if_true,decide_eq_true_eq] at h1;subst h1;exact .neq _ _ _ _ _ _ _ _ _ ht (ckDesc_sound h3)
    |false=>simp only[Bool.false_eq_true,if_false,decide_eq_true_eq] at h1;subst h1;exact .eql _ _ _ _ _ _ _ _ _ ht (ckDesc_sound h3)
   ·cases h
  ·cases h
 ·split at h
  ·rename_i neg plan _ o t x y u
   split at h
   ·rename_i fields e1
    obtain⟨g,e⟩:=when_s h;clear h;subst e;have h:=g
    simp only[Bool.and_eq_true,Bool.not_eq_true'] at h
    obtain⟨⟨⟨h1,h2⟩,h3⟩,h4⟩:=h
    refine .eqAgg neg o t x y u fields plan ?_ (structT_s e1) h2 h3 (ckPlan_sound h4)
    cases neg<;>simpa using h1
   ·split at h
    ·rename_i len e j ed r e2
     split at h
     ·rename_i d e3
      obtain⟨g,e'⟩:=when_s h;clear h;subst e';have h:=g
      simp only[Bool.and_eq_true,Bool.not_eq_true'] at h
      obtain⟨⟨⟨⟨h1,h2⟩,h3⟩,h4⟩,h5⟩:=h
      obtain⟨b,q,-⟩:=tyR_at e3 h4
      refine .eqArr neg o t x y u len e d b ed _ ?_ (arrT_s e2) q (ckDesc_sound h3) h2 (by rw[List.range_eq_range'];exact ckRow_sound h5)
      cases neg<;>simpa using h1
     ·cases h
    ·cases h
  ·cases h
 ·split at h
  ·obtain⟨g,e⟩:=when_s h;clear h;subst e;have h:=g
   simp only[decide_eq_true_eq] at h
   subst h
   exact .un _ _ _
  ·cases h
 ·split at h
  ·obtain⟨g,e⟩:=when_s h;clear h;subst e;have h:=g
   simp only[Bool.and_eq_true,decide_eq_true_eq,Option.isSome_iff_exists] at h
   obtain⟨⟨k,h1⟩,h2⟩:=h
   exact .convInt _ _ _ _ ⟨k,isIntT_s h1⟩ (isIntT_s h2)
  ·cases h
 ·split at h
  ·obtain⟨g,e⟩:=when_s h;clear h;subst e;have h:=g
   simp only[Bool.and_eq_true] at h
   exact .convStr _ _ _ (isStrT_s h.1) (isStrT_s h.2)
  ·cases h
 ·split at h
  ·obtain⟨g,e⟩:=when_s h;clear h;subst e;have h:=g
   simp only[Bool.and_eq_true,Option.isSome_iff_exists] at h
   obtain⟨⟨k,h1⟩,h2⟩:=h
   exact .intStr _ _ _ ⟨k,isIntT_s h1⟩ (isStrT_s h2)
  ·cases h
 ·split at h
  ·split at h
   ·rename_i e e1
    obtain⟨g,e⟩:=when_s h;clear h;subst e;have h:=g
    simp only[Bool.and_eq_true] at h
    exact .bytesStr _ _ _ e (elemT_s e1) (isByteT_s h.1) (isStrT_s h.2)
   ·cases h
  ·cases h
 ·split at h
  ·split at h
   ·rename_i d e1
    obtain⟨g,e⟩:=when_s h;clear h;subst e;have h:=g
    simp only[Bool.and_eq_true] at h
    rw[beqI h.1]
    refine .mkIface _ _ d e1 (fun ms e=>?_)
    subst e
    cases h.2
   ·cases h
  ·cases h
 ·split at h
  ·obtain⟨g,e⟩:=when_s h;clear h;subst e;have h:=g
   simp only[Bool.and_eq_true] at h
   rw[beqI h.1,beqI h.2]
   exact .mkFunc _ _ _
  ·cases h
 ·split at h
  ·split at h
   ·rename_i fields e1
    split at h
    ·rename_i fd e2
     obtain⟨g,e⟩:=when_s h;clear h;subst e;have h:=g
     simp only[Bool.and_eq_true,Bool.not_eq_true'] at h
     obtain⟨⟨h1,h2⟩,h3⟩:=h
     obtain⟨d,b,q⟩:=okTy_sound h2
     rw[beqI h1]
     exact .fieldAddr _ _ _ fields fd d _ b _ (structT_s e1) e2 q (fun e=>by rw[e] at h3;cases h3)
    ·cases h
   ·cases h
  ·cases h
 ·split at h
  ·split at h
   ·rename_i fields e1
    split at h
    ·rename_i fd e2
     obtain⟨g,e⟩:=when_s h;clear h;subst e;have h:=g
     simp only[Bool.and_eq_true] at h
     obtain⟨h1,h2⟩:=h
     obtain⟨d,b,q,-⟩:=ckTy_sound h2
     rw[beqI h1]
     exact .field _ _ _ fields fd d _ b _ (structT_s e1) e2 q
    ·cases h
   ·cases h
  ·cases h
 ·split at h
  ·split at h
   ·rename_i l e e1
    obtain⟨g,e⟩:=when_s h;clear h;subst e;have h:=g
    simp only[Bool.and_eq_true] at h
    obtain⟨⟨h1,h2⟩,h3⟩:=h
    obtain⟨d,b,q⟩:=okTy_sound h3
    rw[beqI h1,beqI h2]
    exact .indexA _ _ _ l e d _ b _ (arrT_s e1) q
   ·cases h
  ·cases h
 ·split at h
  ·split at h
   ·rename_i e e1
    obtain⟨g,e⟩:=when_s h;clear h;subst e;have h:=g
    simp only[Bool.and_eq_true] at h
    obtain⟨h1,h2⟩:=h
    obtain⟨d,b,q⟩:=okTy_sound h2
    rw[beqI h1]
    exact .indexS _ _ _ e d _ b _ (elemT_s e1) q
   ·cases h
  ·cases h
 ·split at h
  ·split at h
   ·rename_i l e e1
    obtain⟨g,e⟩:=when_s h;clear h;subst e;have h:=g
    simp only[Bool.and_eq_true] at h
    obtain⟨h1,h2⟩:=h
    obtain⟨d,b,q,-⟩:=ckTy_sound h2
    rw[beqI h1]
    exact .idxArr _ _ _ l e d _ b _ (arrT_s e1) q
   ·cases h
  ·cases h
 ·split at h
  ·obtain⟨g,e⟩:=when_s h;clear h;subst e;have h:=g
   exact .idxStr _ _ _ (isStrT_s h)
  ·cases h
 ·split at h
  ·split at h
   ·rename_i e e1
    obtain⟨g,e⟩:=when_s h;clear h;subst e;have h:=g
    simp only[Bool.and_eq_true,optB,beq_iff_eq] at h
    obtain⟨⟨⟨h1,h2⟩,h3⟩,h4⟩:=h
    obtain⟨d,b,q⟩:=okTy_sound h2
    rw[beqI h1,←h3,←h4]
    exact .sliceS _ _ _ _ e d _ b _ (elemT_s e1) q
   ·cases h
  ·cases h
 ·split at h
  ·obtain⟨g,e⟩:=when_s h;clear h;subst e;have h:=g
   simp only[Bool.and_eq_true,optB,beq_iff_eq] at h
   obtain⟨⟨h1,h3⟩,h4⟩:=h
   rw[←h3,←h4]
   exact .sliceStr _ _ _ _ (isStrT_s h1)
  ·cases h
 ·split at h
  ·split at h
   ·rename_i n e e1
    obtain⟨g,e⟩:=when_s h;clear h;subst e;have h:=g
    simp only[Bool.and_eq_true,optB,beq_iff_eq] at h
    obtain⟨⟨⟨⟨h0,h1⟩,h2⟩,h3⟩,h4⟩:=h
    obtain⟨d,b,q⟩:=okTy_sound h2
    rw[beqI h0,beqI h1,←h3,←h4]
    exact .sliceA _ _ _ _ n e d _ b _ (arrT_s e1) q
   ·cases h
  ·cases h
 ·split at h
  ·obtain⟨g,e⟩:=when_s h;clear h;subst e;have h:=g
   rw[beqI h]
   exact .extract _ _
  ·cases h
 ·split at h
  ·rename_i x t e1
   obtain⟨g,e⟩:=when_s h;clear h;subst e;have h:=g
   rw[bcall_s e1]
   exact .lenStr _ _ (isStrT_s h)
  ·cases h
 ·split at h
  ·rename_i x t e1
   obtain⟨g,e⟩:=when_s h;clear h;subst e;have h:=g
   obtain⟨e,he⟩:=Option.isSome_iff_exists.1 h
   rw[bcall_s e1]
   exact .lenSlice _ _ e (elemT_s he)
  ·cases h
 ·split at h
  ·rename_i x t e1
   rw[bcall_s e1]
   split at h
   ·rename_i m e e2
    obtain⟨g,e⟩:=when_s h;clear h;subst e;have h:=g
    rw[beqI h]
    exact .lenArr _ _ _ e (arrT_s e2)
   ·split at h
    ·rename_i a e2
     split at h
     ·rename_i m e e3
      obtain⟨g,e⟩:=when_s h;clear h;subst e;have h:=g
      rw[beqI h]
      exact .lenPtr _ _ a _ e (ptrT_s e2) (arrT_s e3)
     ·cases h
    ·cases h
  ·cases h
 ·split at h
  ·rename_i ys ts e1
   cases h
   rw[bcall_s e1]
   exact .min ⟨xs⟩ ⟨ts⟩
  ·cases h
 ·split at h
  ·rename_i ys ts e1
   cases h
   rw[bcall_s e1]
   exact .max ⟨xs⟩ ⟨ts⟩
  ·cases h
end Go.Idl
namespace Go.Idl
def vcall:Op→Option (Operand×List Operand)
 |.call ⟨.value g,xs,_⟩=>some (g,xs.toList)
 |_=>none
theorem vcall_s {op:Op}{g:Operand}{xs:List Operand}(h:vcall op=some (g,xs)):∃ts,op=.call ⟨.value g,⟨xs⟩,ts⟩:=by
 unfold vcall at h
 split at h
 ·rename_i g' xs' ts
  obtain⟨xs'⟩:=xs'
  cases h
  exact⟨ts,rfl⟩
 ·cases h
variable (P:Program) (rows:Nat→Option (List IV))
def ckK (op:Op):IK→Bool
 |.mv x' _ _=>match op with
  |.move x=>ckArg rows x x'
  |.assign x=>ckArg rows x x'
  |_=>false
 |.p po as=>match ckP P op po with
  |some xs=>ckArgs rows xs as
  |none=>false
 |.same x'=>match op with
  |.convert s t x=>Nat.beq s t&&(match elemT P t with | some e=>isByteT P e | none=>false)&&ckArg rows x x'
  |_=>false
 |.load agg n a' _=>match op with
  |.load t a=>ckTy P t n agg&&ckArg rows a a'
  |_=>false
 |.store n a' x' _=>match op with
  |.store t a x=>ckTy P t n (aggOf P t)&&ckArg rows a a'&&ckArg rows x x'
  |_=>false
 |.allocL _ zero _=>match op with | .alloc t=>ckZero P t zero | _=>false
 |.allocG zero _=>match op with | .alloc t=>ckZero P t zero | _=>false
 |.boxL _ _ x'=>match op with | .box _ x=>ckArg rows x x' | _=>false
 |.boxG _ x'=>match op with | .box _ x=>ckArg rows x x' | _=>false
 |.boxI _ x'=>match op with | .box _ x=>ckArg rows x x' | _=>false
 |.buildSlice n len zero parts as=>match op with
  |.buildSlice t len' ps=>match elemT P t with
   |some e=>Nat.beq len len'&&ckTy P e n (aggOf P e)&&ckZero P e zero&&eqPairs parts (ps.toList.map fun p=>(p.1*n,n))&&Nat.ble (len*n) 16777216&&ckArgs rows (ps.toList.map (·.2)) as
   |none=>false
  |_=>false
 |.strBytes x'=>match op with
  |.convert s d x=>match elemT P d with
   |some e=>isStrT P s&&isByteT P e&&ckArg rows x x'
   |none=>false
  |_=>false
 |.makeI n bytes zero l' c'=>match op with
  |.makeSlice t l c=>match elemT P t with
   |some e=>ckTy P e n (aggOf P e)&&Nat.beq bytes (bytesOf P e)&&ckZero P e zero&&ckArg rows l l'&&ckArg rows c c'
   |none=>false
  |_=>false
 |.makeB n bytes zero l' c'=>match op with
  |.makeSlice t l c=>match elemT P t with
   |some e=>ckTy P e n (aggOf P e)&&Nat.beq bytes (bytesOf P e)&&ckZero P e zero&&ckArg rows l l'&&ckArg rows c c'
   |none=>false
  |_=>false
 |.append n bytes s' x'=>match bcall op with
  |some (.append,[s,x],[t,u])=>match elemT P t with
   |some e=>ckTy P e n (aggOf P e)&&Nat.beq bytes (bytesOf P e) && !Nat.beq bytes 0 && !Nat.beq n 0&&ckZero P e (zeroIV e)&&(isStrT P u||(elemT P u).isSome)&&ckArg rows s s'&&ckArg rows x x'
   |none=>false
  |_=>false
 |.copy n d' s'=>match bcall op with
  |some (.copy,[d,s],[t,_])=>match elemT P t with
   |some e=>ckTy P e n (aggOf P e)&&ckArg rows d d'&&ckArg rows s s'
   |none=>false
  |_=>false
 |.callF f as _=>match vcall op with
  |some (.func g,xs)=>Nat.beq f g&&ckArgs rows xs as
  |_=>false
 |.callV g' as _=>match vcall op with
  |some (g,xs)=>ckArg rows g g'&&ckArgs rows xs as
  |_=>false
 |.mkMap=>match op with | .makeMap _ none=>true | _=>false
 |.lookup ed zero ok m' x'=>match op with
  |.lookup t m x ok'=>match mapT P t with
   |some (k,e)=>match P.underlying k,P.info? e with
    |some d,some i=>match i.zero with
     |some z=>(ok==ok')&&ckKey ed d&&ckV 20000 zero z&&ckArg rows m m'&&ckArg rows x x'
     |none=>false
    |_,_=>false
   |none=>false
  |_=>false
 |.mapUpd ed m' x' v'=>match op with
  |.mapUpdate t m x v=>match mapT P t with
   |some (k,_)=>match P.underlying k with
    |some d=>ckKey ed d&&ckArg rows m m'&&ckArg rows x x'&&ckArg rows v v'
    |none=>false
   |none=>false
  |.insert t m x v=>match mapT P t with
   |some (k,_)=>match P.underlying k with
    |some d=>ckKey ed d&&ckArg rows m m'&&ckArg rows x x'&&ckArg rows v v'
    |none=>false
   |none=>false
  |_=>false
 |.mapLen m'=>match bcall op with
  |some (.len,[m],[t])=>(mapT P t).isSome&&ckArg rows m m'
  |_=>false
 |.bytesM x'=>match op with
  |.convert s d x=>match elemT P s with
   |some e=>isByteT P e&&isStrT P d&&ckArg rows x x'
   |none=>false
  |_=>false
 |.rangeStr _ x'=>match op with
  |.range t x=>isStrT P t&&ckArg rows x x'
  |_=>false
 |.nextStr a'=>match op with
  |.next a true=>ckArg rows a a'
  |_=>false
where
 zeroIV (e:TypeId):List IV:=match P.info? e with
  |some i=>match i.zero with
   |some v=>v.cells.toList.map ofV
   |none=>[]
  |none=>[]
 ofV:Value→IV
  |.bool b=>.bool b
  |.int k n=>.int k n
  |.float k n=>.float k n
  |.complex k a b=>.cplx k a b
  |.string t=>.str t.data.toList
  |.pointer _=>.nilPtr
  |.slice _ _ _=>.nilSlice
  |.map _=>.nilMap
  |.nilIface=>.nilIface
  |.nilFunc=>.nilFunc
  |_=>.undef
variable {P rows}
theorem ckK_sound {op:Op}{k:IK}(h:ckK P rows op k=true):KR P rows op k:=by
 unfold ckK at h
 split at h
 ·split at h
  ·exact .move _ _ _ _ (ckArg_sound h)
  ·exact .assign _ _ _ _ (ckArg_sound h)
  ·cases h
 ·split at h
  ·rename_i e;exact .p _ _ _ _ (ckP_sound e) (ckArgs_sound h)
  ·cases h
 ·split at h
  ·simp only[Bool.and_eq_true] at h
   obtain⟨⟨h1,h2⟩,h3⟩:=h
   rw[beqI h1]
   split at h2
   ·rename_i e he;exact .same _ e _ _ (elemT_s he) (isByteT_s h2) (ckArg_sound h3)
   ·cases h2
  ·cases h
 ·split at h
  ·simp only[Bool.and_eq_true] at h
   obtain⟨d,b,q,-⟩:=ckTy_sound h.1
   exact .load _ d _ b _ _ _ _ q (ckArg_sound h.2)
  ·cases h
 ·split at h
  ·simp only[Bool.and_eq_true] at h
   obtain⟨d,b,q,-⟩:=ckTy_sound h.1.1
   exact .store _ d _ b _ _ _ _ _ _ q (ckArg_sound h.1.2) (ckArg_sound h.2)
  ·cases h
 ·split at h<;>first | exact .allocL _ _ _ _ (ckZero_sound h) | cases h
 ·split at h<;>first | exact .allocG _ _ _ (ckZero_sound h) | cases h
 ·split at h<;>first | exact .boxL _ _ _ _ _ (ckArg_sound h) | cases h
 ·split at h<;>first | exact .boxG _ _ _ _ (ckArg_sound h) | cases h
 ·split at h<;>first | exact .boxI _ _ _ _ (ckArg_sound h) | cases h
 ·split at h
  ·split at h
   ·rename_i e he
    simp only[Bool.and_eq_true] at h
    obtain⟨⟨⟨⟨⟨h1,h2⟩,h3⟩,h4⟩,h5⟩,h6⟩:=h
    obtain⟨d,b,q,-⟩:=ckTy_sound h2
    have hl:=Nat.le_of_ble_eq_true h5
    rw[beqI h1] at hl ⊢
    exact .buildSlice _ e _ _ _ _ _ d _ b _ (elemT_s he) q (ckZero_sound h3) (eqPairs_sound h4) (by simpa using hl) (ckArgs_sound h6)
   ·cases h
  ·cases h
 ·split at h
  ·split at h
   ·rename_i e he
    simp only[Bool.and_eq_true] at h
    exact .strBytes _ _ e _ _ (isStrT_s h.1.1) (elemT_s he) (isByteT_s h.1.2) (ckArg_sound h.2)
   ·cases h
  ·cases h
 ·split at h
  ·split at h
   ·rename_i e he
    simp only[Bool.and_eq_true] at h
    obtain⟨⟨⟨⟨h1,h2⟩,h3⟩,h4⟩,h5⟩:=h
    obtain⟨d,b,q,i,hi,hb⟩:=ckTy_sound h1
    have hb2:bytesOf P e=b:=by simp[bytesOf,hi,hb]
    rw[beqI h2,hb2]
    exact .makeI _ e _ _ _ _ _ d _ b _ (elemT_s he) q (ckZero_sound h3) (ckArg_sound h4) (ckArg_sound h5)
   ·cases h
  ·cases h
 ·split at h
  ·split at h
   ·rename_i e he
    simp only[Bool.and_eq_true] at h
    obtain⟨⟨⟨⟨h1,h2⟩,h3⟩,h4⟩,h5⟩:=h
    obtain⟨d,b,q,i,hi,hb⟩:=ckTy_sound h1
    have hb2:bytesOf P e=b:=by simp[bytesOf,hi,hb]
    rw[beqI h2,hb2]
    exact .makeB _ e _ _ _ _ _ d _ b _ (elemT_s he) q (ckZero_sound h3) (ckArg_sound h4) (ckArg_sound h5)
   ·cases h
  ·cases h
 ·split at h
  ·rename_i s x t u e1
   rw[bcall_s e1]
   split at h
   ·rename_i e he
    simp only[Bool.and_eq_true,Bool.not_eq_true',Bool.or_eq_true] at h
    obtain⟨⟨⟨⟨⟨⟨⟨h1,h2⟩,h3⟩,h4⟩,h5⟩,h6⟩,h7⟩,h8⟩:=h
    obtain⟨d,b,q,i,hi,hb⟩:=ckTy_sound h1
    have hb2:bytesOf P e=b:=by simp[bytesOf,hi,hb]
    have hbb:=beqI h2
    rw[hb2] at hbb
    subst hbb
    refine .append _ _ e _ _ _ _ _ d _ _ _ (elemT_s he) ?_ q (fun q=>by rw[q] at h3;cases h3) (fun q=>by rw[q] at h4;cases h4) (ckZero_sound h5) (ckArg_sound h7) (ckArg_sound h8)
    rcases h6 with h6 | h6
    ·exact .inl (isStrT_s h6)
    ·obtain⟨e',he'⟩:=Option.isSome_iff_exists.1 h6
     exact .inr ⟨e',elemT_s he'⟩
   ·cases h
  ·cases h
 ·split at h
  ·rename_i d s t u e1
   rw[bcall_s e1]
   split at h
   ·rename_i e he
    simp only[Bool.and_eq_true] at h
    obtain⟨td,b,q,-⟩:=ckTy_sound h.1.1
    exact .copy _ _ e _ _ _ _ td _ b _ (elemT_s he) q (ckArg_sound h.1.2) (ckArg_sound h.2)
   ·cases h
  ·cases h
 ·split at h
  ·rename_i g xs e1
   obtain⟨ts,rfl⟩:=vcall_s e1
   simp only[Bool.and_eq_true] at h
   rw[beqI h.1]
   exact .callF _ _ _ _ _ (ckArgs_sound h.2)
  ·cases h
 ·split at h
  ·rename_i g xs e1
   obtain⟨ts,rfl⟩:=vcall_s e1
   simp only[Bool.and_eq_true] at h
   exact .callV _ _ _ _ _ _ (ckArg_sound h.1) (ckArgs_sound h.2)
  ·cases h
 ·split at h<;>first | exact .mkMap _ | cases h
 ·split at h
  ·split at h
   ·rename_i k e he
    split at h
    ·rename_i d i e1 e2
     split at h
     ·rename_i z ez
      simp only[Bool.and_eq_true,beq_iff_eq] at h
      obtain⟨⟨⟨⟨h1,h2⟩,h3⟩,h4⟩,h5⟩:=h
      subst h1
      exact .lookup _ k e _ _ _ _ _ _ d _ (mapT_s he) e1 (ckKey_sound h2) ⟨i,z,e2,ez,ckV_sound _ _ _ h3⟩ (ckArg_sound h4) (ckArg_sound h5)
     ·cases h
    ·cases h
   ·cases h
  ·cases h
 ·split at h
  ·split at h
   ·rename_i k e he
    split at h
    ·rename_i d e1
     simp only[Bool.and_eq_true] at h
     obtain⟨⟨⟨h2,h3⟩,h4⟩,h5⟩:=h
     exact .mapUpd _ k e _ _ _ _ _ _ d _ (mapT_s he) e1 (ckKey_sound h2) (ckArg_sound h3) (ckArg_sound h4) (ckArg_sound h5)
    ·cases h
   ·cases h
  ·split at h
   ·rename_i k e he
    split at h
    ·rename_i d e1
     simp only[Bool.and_eq_true] at h
     obtain⟨⟨⟨h2,h3⟩,h4⟩,h5⟩:=h
     exact .ins _ k e _ _ _ _ _ _ d _ (mapT_s he) e1 (ckKey_sound h2) (ckArg_sound h3) (ckArg_sound h4) (ckArg_sound h5)
    ·cases h
   ·cases h
  ·cases h
 ·split at h
  ·rename_i m t e1
   rw[bcall_s e1]
   simp only[Bool.and_eq_true] at h
   obtain⟨⟨k,e⟩,he⟩:=Option.isSome_iff_exists.1 h.1
   exact .mapLen _ k e _ _ (mapT_s he) (ckArg_sound h.2)
  ·cases h
 ·split at h
  ·split at h
   ·rename_i e e1
    simp only[Bool.and_eq_true] at h
    exact .bytesM _ _ _ e _ (elemT_s e1) (isByteT_s h.1.1) (isStrT_s h.1.2) (ckArg_sound h.2)
   ·cases h
  ·cases h
 ·split at h
  ·simp only[Bool.and_eq_true] at h
   exact .rangeStr _ _ _ _ (isStrT_s h.1) (ckArg_sound h.2)
  ·cases h
 ·split at h
  ·exact .nextStr _ _ (ckArg_sound h)
  ·cases h
def optBeq:Option Nat→Option Nat→Bool
 |none,none=>true
 |some i,some j=>Nat.beq i j
 |_,_=>false
theorem optBeq_s {a b:Option Nat}(h:optBeq a b=true):a=b:=by
 unfold optBeq at h
 split at h
 ·rfl
 ·rw[beqI h]
 ·cases h
variable (P rows)
def ckGuard (ops:Array Oper):Option (Nat×Bool)→Option (Nat×Bool)→Bool
 |none,none=>true
 |some (j,want),some (s,want')=>(want==want')&&optBeq ((ops[j]?).bind (·.dst)) (some s)
 |_,_=>false
def ckOp (N:Nat) (ops:Array Oper) (o:Oper) (i:IOp):Bool :=
 optBeq o.dst i.dst&&(match i.dst with | some d=>Nat.blt d N | none=>true)&&ckGuard ops o.guard i.guard&&ckK P rows o.op i.k
def ckOps (N:Nat) (ops:Array Oper):List Oper→List IOp→Bool
 |[],[]=>true
 |o::os,i::is=>ckOp P rows N ops o i&&ckOps N ops os is
 |_,_=>false
def ltAll (N:Nat):List Nat→Bool
 |[]=>true
 |p::r=>Nat.blt p N&&ltAll N r
def eqNats:List Nat→List Nat→Bool
 |[],[]=>true
 |a::r,b::s=>Nat.beq a b&&eqNats r s
 |_,_=>false
variable (rnd:FuncId→Nat→Option IRnd)
def ckStuck:ICode→Bool
 |.cond (.c .nilPtr) .skip .skip=>true
 |_=>false
def ckCode (N:Nat):Code→ICode→Bool
 |.skip,x=>match x with | .skip=>true | _=>false
 |.label _,x=>match x with | .skip=>true | _=>false
 |.region _ ops false,x=>match x with | .ops is=>ckOps P rows N ops ops.toList is | x=>ckStuck x
 |.region _ ops true,x=>match x with | .draw is pre=>ckOps P rows N ops ops.toList is&&drawB ops is pre | x=>ckStuck x
 |.seq a b,x=>match x with | .seq y z=>ckCode N a y&&ckCode N b z | _=>false
 |.cond c a b,x=>match x with | .cond c' y z=>ckArg rows c c'&&ckCode N a y&&ckCode N b z | _=>false
 |.block id a,x=>match x with | .block id' y=>Nat.beq id id'&&ckCode N a y | _=>false
 |.loop a,x=>match x with | .loop _ y=>ckCode N a y | _=>false
 |.exit id,x=>match x with | .exit id'=>Nat.beq id id' | _=>false
 |.ret,x=>match x with | .ret=>true | _=>false
 |.scope a,x=>ckCode N a x
 |.rangeFunc g ps as body,x=>match x with
  |.rangeF g' fn site=>match rnd fn site with
   |some r=>ckArg rows g g'&&eqNats ps.toList r.ps&&ltAll N r.ps&&ckCode N as r.assign&&ckCode N body r.body
   |none=>false
  |_=>false
 |_,x=>ckStuck x
variable {P rows rnd}
theorem ckOp_sound {N:Nat}{ops:Array Oper}{o:Oper}{i:IOp}(h:ckOp P rows N ops o i=true):OpR P rows N ops o i:=by
 simp only[ckOp,Bool.and_eq_true] at h
 obtain⟨⟨⟨h1,h2⟩,h3⟩,h4⟩:=h
 refine⟨optBeq_s h1,fun d hd=>?_,ckK_sound h4,?_⟩
 ·rw[hd] at h2;simpa[Nat.blt_eq] using h2
 ·unfold ckGuard at h3
  split at h3
  ·rename_i e1 e2;rw[e1,e2];trivial
  ·rename_i j w s w' e1 e2
   rw[e1,e2]
   simp only[Bool.and_eq_true,beq_iff_eq] at h3
   exact⟨h3.1,optBeq_s h3.2⟩
  ·cases h3
theorem ckOps_sound {N:Nat}{ops:Array Oper}:∀{os:List Oper}{is:List IOp},ckOps P rows N ops os is=true→OpsR P rows N ops os is
 |[],[],_=>.nil
 |o::os,i::is,h=>by
  simp only[ckOps,Bool.and_eq_true] at h
  exact .cons (ckOp_sound h.1) (ckOps_sound h.2)
 |[],_::_,h=>by simp[ckOps] at h
 |_::_,[],h=>by simp[ckOps] at h
theorem ltAll_s {N:Nat}:∀{l:List Nat},ltAll N l=true→∀p∈l,p<N
 |[],_,p,h=>by cases h
 |q::l,h,p,hp=>by
  simp only[ltAll,Bool.and_eq_true,Nat.blt_eq] at h
  rcases List.mem_cons.1 hp with rfl | hp
  ·exact h.1
  ·exact ltAll_s h.2 p hp
theorem eqNats_s:∀{a b:List Nat},eqNats a b=true→a=b
 |[],[],_=>rfl
 |a::r,b::s,h=>by
  simp only[eqNats,Bool.and_eq_true] at h
  rw[beqI h.1,eqNats_s h.2]
 |[],_::_,h=>by simp[eqNats] at h
 |_::_,[],h=>by simp[eqNats] at h
theorem ckStuck_sound {T:Tab}{N:Nat}{D} {c:Code}{x:ICode}(h:ckStuck x=true):CR P rows N T D c x:=by
 unfold ckStuck at h
 split at h
 ·exact .any c
 ·cases h
theorem ckCode_sound {T:Tab}{N:Nat}:∀(c:Code) (x:ICode),ckCode P rows T.rnd N c x=true→CR P rows N T (fun ops is pre=>drawB ops is pre=true) c x
 |.skip,x,h=>by simp only[ckCode] at h;split at h<;>first | exact .skip | cases h
 |.label l,x,h=>by simp only[ckCode] at h;split at h<;>first | exact .label _ | cases h
 |.region id ops false,x,h=>by simp only[ckCode] at h;split at h<;>first | exact .ops _ _ _ (ckOps_sound h) | exact ckStuck_sound h
 |.region id ops true,x,h=>by
  simp only[ckCode] at h
  split at h
  ·simp only[Bool.and_eq_true] at h;exact .draw _ _ _ _ (ckOps_sound h.1) h.2
  ·exact ckStuck_sound h
 |.seq a b,x,h=>by
  simp only[ckCode] at h
  split at h
  ·simp only[Bool.and_eq_true] at h;exact .seq (ckCode_sound a _ h.1) (ckCode_sound b _ h.2)
  ·cases h
 |.cond c a b,x,h=>by
  simp only[ckCode] at h
  split at h
  ·simp only[Bool.and_eq_true] at h;exact .cond (ckArg_sound h.1.1) (ckCode_sound a _ h.1.2) (ckCode_sound b _ h.2)
  ·cases h
 |.block id a,x,h=>by
  simp only[ckCode] at h
  split at h
  ·simp only[Bool.and_eq_true] at h;rw[beqI h.1];exact .block (ckCode_sound a _ h.2)
  ·cases h
 |.loop a,x,h=>by
  simp only[ckCode] at h
  split at h
  ·exact .loop (ckCode_sound a _ h)
  ·cases h
 |.exit id,x,h=>by
  simp only[ckCode] at h
  split at h
  ·rw[beqI h];exact .exit _
  ·cases h
 |.ret,x,h=>by simp only[ckCode] at h;split at h<;>first | exact .ret | cases h
 |.scope a,x,h=>.scope (ckCode_sound a x (by simpa only[ckCode] using h))
 |.rangeFunc g ps as body,x,h=>by
  simp only[ckCode] at h
  split at h
  ·split at h
   ·rename_i r hr
    simp only[Bool.and_eq_true] at h
    obtain⟨⟨⟨⟨h1,h2⟩,h3⟩,h4⟩,h5⟩:=h
    exact .rangeF (ckArg_sound h1) hr (eqNats_s h2) (ltAll_s h3) (ckCode_sound as _ h4) (ckCode_sound body _ h5)
   ·cases h
  ·cases h
 |.goto _,x,h=>ckStuck_sound (by simpa only[ckCode] using h)
 |.refuse _,x,h=>ckStuck_sound (by simpa only[ckCode] using h)
variable (P)
def ckRet:ResultVar→RV→Bool
 |.tmp i,.t j=>Nat.beq i j
 |.cell i t,.cell j agg n=>Nat.beq i j&&ckTy P t n agg
 |_,_=>false
def ckRets:List ResultVar→List RV→Bool
 |[],[]=>true
 |x::xs,y::ys=>ckRet P x y&&ckRets xs ys
 |_,_=>false
variable (rows rnd)
def ckFn (f:FuncId) (ifn:IFn):Bool :=
 match P.funcs[f]? with
 |some fn=>match fn.body with
  |some c=>!(fn.name == "runtime.NumGoroutine")&&Nat.ble ifn.nargs fn.ntmps&&ckRets P fn.results.toList ifn.rets&&ckCode P rows rnd fn.ntmps c ifn.body
  |none=>false
 |none=>false
variable {P rows rnd}
theorem ckRets_sound:∀{xs:List ResultVar}{ys:List RV},ckRets P xs ys=true→RetsR P xs ys
 |[],[],_=>.nil
 |x::xs,y::ys,h=>by
  simp only[ckRets,Bool.and_eq_true] at h
  refine .cons ?_ (ckRets_sound h.2)
  have h:=h.1
  unfold ckRet at h
  split at h
  ·rw[beqI h];exact .tmp _
  ·simp only[Bool.and_eq_true] at h
   obtain⟨d,b,q,-⟩:=ckTy_sound h.2
   rw[beqI h.1]
   exact .cell _ _ d _ b _ q
  ·cases h
 |[],_::_,h=>by simp[ckRets] at h
 |_::_,[],h=>by simp[ckRets] at h
theorem ckFn_sound {T:Tab}{f:FuncId}{ifn:IFn}(h:ckFn P rows T.rnd f ifn=true):∃fn c,FnR ⟨P,rows,T,fun ops is pre=>drawB ops is pre=true⟩ f ifn fn c:=by
 unfold ckFn at h
 split at h
 ·rename_i fn e1
  split at h
  ·rename_i c e2
   simp only[Bool.and_eq_true,Bool.not_eq_true'] at h
   obtain⟨⟨⟨h1,h2⟩,h3⟩,h4⟩:=h
   exact⟨fn,c,e1,e2,h1,ckCode_sound c _ h4,Nat.le_of_ble_eq_true h2,ckRets_sound h3⟩
  ·cases h
 ·cases h
theorem FT.all_find {α:Type}{p:Nat→α→Bool}:∀{t:FT α},t.all p=true→∀{i v},t.find i=some v→p i v=true
 |.nil,_,i,v,h=>by simp[FT.find] at h
 |.node k v l r,ha,i,x,h=>by
  simp only[FT.all,Bool.and_eq_true] at ha
  simp only[FT.find] at h
  split at h
  ·rename_i e
   cases h
   rw[beqI e];exact ha.1.1
  ·split at h
   ·exact FT.all_find ha.1.2 h
   ·exact FT.all_find ha.2 h
end Go.Idl
namespace Go.Idl
open Classical
def CallLe (c c':CallT):Prop:=∀a b m r,c a b m=some r→c' a b m=some r
def LoopLe (l l':LoopT):Prop:=∀h b st r,l h b st=some r→l' h b st=some r
theorem callI_mono {c c':CallT}(hc:CallLe c c') {st:St}{f:Callee}{as:List IV}{hs:List Arg}{r:IV×Cap×St}(h:callI c st f as hs=some r):callI c' st f as hs=some r:=by
 unfold callI at h ⊢
 split at h
 ·rename_i q hh e1 e2
  split at h
  ·cases h
  ·rename_i m em
   split at h
   ·cases h
   ·rename_i v m' ec
    rw[hc _ _ _ _ ec]
    exact h
 ·cases h
theorem ik_mono {c c':CallT}(hc:CallLe c c') {st:St}{k:IK}{r:IV×Cap×St}(h:k.run c st=some r):k.run c' st=some r:=by
 cases k with
 |callF f as hs =>
  simp only[IK.run] at h ⊢
  split at h
  ·exact callI_mono hc h
  ·cases h
 |callV g as hs =>
  simp only[IK.run] at h ⊢
  split at h
  ·split at h
   ·exact callI_mono hc h
   ·exact callI_mono hc h
   ·cases h
  ·cases h
 |_=>exact h
theorem run0_mono {c c':CallT}(hc:CallLe c c') {st:St}{o:IOp}{r:St}(h:o.run0 c st=some r):o.run0 c' st=some r:=by
 unfold IOp.run0 at h ⊢
 split at h
 ·split at h
  ·rename_i e;rw[ik_mono hc e];exact h
  ·cases h
 ·exact h
 ·cases h
theorem op_mono {c c':CallT}(hc:CallLe c c') {st:St}{o:IOp}{r:St}(h:o.run c st=some r):o.run c' st=some r:=by
 unfold IOp.run at h ⊢
 split at h
 ·split at h
  ·exact run0_mono hc h
  ·cases h
 ·exact run0_mono hc h
theorem ops_mono {c c':CallT}(hc:CallLe c c'):∀{l:List IOp}{st r:St},runOps c l st=some r→runOps c' l st=some r
 |[],_,_,h=>h
 |o::l,st,r,h=>by
  simp only[runOps] at h ⊢
  split at h
  ·rename_i e;rw[op_mono hc e];exact ops_mono hc h
  ·cases h
theorem code_mono {c c':CallT}(hc:CallLe c c') {l l':LoopT}(hl:LoopLe l l'):∀{x:ICode}{st:St}{r:Ex×St},x.run c l st=some r→x.run c' l' st=some r
 |.skip,_,_,h=>h
 |.ops is,st,r,h=>by
  simp only[ICode.run] at h ⊢
  split at h
  ·rename_i e;rw[ops_mono hc e];exact h
  ·cases h
 |.draw is _,st,r,h=>by
  simp only[ICode.run] at h ⊢
  split at h
  ·split at h
   ·rename_i e;rw[ops_mono hc e];exact h
   ·cases h
  ·cases h
 |.seq a b,st,r,h=>by
  simp only[ICode.run] at h ⊢
  split at h
  ·rename_i e;rw[code_mono hc hl e];exact code_mono hc hl h
  ·rename_i hn;rw[code_mono hc hl h]
   split
   ·rename_i e;cases e;exact (hn _ h).elim
   ·rfl
 |.cond d a b,st,r,h=>by
  simp only[ICode.run] at h ⊢
  split at h
  ·exact code_mono hc hl h
  ·exact code_mono hc hl h
  ·cases h
 |.block id b,st,r,h=>by
  simp only[ICode.run] at h ⊢
  split at h
  ·rename_i e;rw[code_mono hc hl e];exact h
  ·rename_i hn;rw[code_mono hc hl h]
   split
   ·rename_i e;cases e;exact (hn _ _ h).elim
   ·rfl
 |.loop hd b,st,r,h=>hl _ _ _ _ (by simpa only[ICode.run] using h)
 |.rangeF g fn site,st,r,h=>by
  simp only[ICode.run] at h ⊢
  split at h
  ·split at h
   ·split at h
    ·rename_i e;rw[hc _ _ _ _ e];exact h
    ·cases h
   ·cases h
  ·cases h
 |.exit _,_,_,h=>h
 |.ret,_,_,h=>h
theorem fcall_mono {c c':CallT}(hc:CallLe c c') {l l':LoopT}(hl:LoopLe l l') {fn:IFn}{as:List IV}{m:IM}{r:IV×IM}(h:fn.call c l as m=some r):fn.call c' l' as m=some r:=by
 unfold IFn.call at h ⊢
 split at h
 ·cases h
 ·rename_i hn
  rw[if_neg hn]
  split at h
  ·rename_i e;rw[code_mono hc hl e];exact h
  ·cases h
theorem rcall_mono {c c':CallT}(hc:CallLe c c') {l l':LoopT}(hl:LoopLe l l') {rn:IRnd}{id:Nat}{tm:Env}{as:List IV}{m:IM}{r:IV×IM}(h:rn.call c l id tm as m=some r):rn.call c' l' id tm as m=some r:=by
 unfold IRnd.call at h ⊢
 split at h
 ·cases h
 ·rename_i hn
  rw[if_neg hn]
  split at h
  ·rename_i e
   rw[code_mono hc hl e]
   simp only
   split at h
   ·split at h
    ·split at h
     ·rename_i e2;rw[code_mono hc hl e2];exact h
     ·cases h
    ·cases h
   ·cases h
  ·cases h
variable (tab:Tab) (prims:Prims)
theorem sem_succ:∀k,CallLe (sem tab prims k).call (sem tab prims (k+1)).call∧LoopLe (sem tab prims k).loop (sem tab prims (k+1)).loop
 |0=>⟨fun _ _ _ _ h=>by simp[sem] at h,fun _ _ _ _ h=>by simp[sem] at h⟩
 |k+1=>by
  obtain⟨h1,h2⟩:=sem_succ k
  refine⟨fun c as m r h=>?_,fun hd b st r h=>?_⟩
  ·rw[sem] at h ⊢
   simp only at h ⊢
   split at h
   ·split at h
    ·exact h
    ·split at h
     ·exact fcall_mono h1 h2 h
     ·cases h
   ·split at h
    ·split at h
     ·exact rcall_mono h1 h2 h
     ·cases h
    ·cases h
  ·rw[sem] at h ⊢
   simp only at h ⊢
   split at h
   ·cases h
   ·split at h
    ·rename_i e;rw[code_mono h1 h2 e];exact h2 _ _ _ _ h
    ·rename_i hn;rw[code_mono h1 h2 h]
     split
     ·rename_i e;cases e;exact (hn _ h).elim
     ·rfl
theorem sem_le {k k':Nat}(h:k≤k'):CallLe (sem tab prims k).call (sem tab prims k').call∧LoopLe (sem tab prims k).loop (sem tab prims k').loop:=by
 induction h with
 |refl=>exact⟨fun _ _ _ _ h=>h,fun _ _ _ _ h=>h⟩
 |step _ ih =>
  obtain⟨h1,h2⟩:=sem_succ tab prims _
  exact⟨fun _ _ _ _ h=>h1 _ _ _ _ (ih.1 _ _ _ _ h),fun _ _ _ _ h=>h2 _ _ _ _ (ih.2 _ _ _ _ h)⟩
noncomputable def callW:CallT:=fun c as m=>if h:∃r,∃k,(sem tab prims k).call c as m=some r then some h.choose else none
noncomputable def loopW:LoopT:=fun hd b st=>if h:∃r,∃k,(sem tab prims k).loop hd b st=some r then some h.choose else none
variable {tab prims}
theorem callW_iff {c:Callee}{as:List IV}{m:IM}{r:IV×IM}:callW tab prims c as m=some r↔∃k,(sem tab prims k).call c as m=some r:=by
 have uniq:∀{r r' k k'},(sem tab prims k).call c as m=some r→(sem tab prims k').call c as m=some r'→r=r':=by
  intro r r' k k' h h'
  have h1:=(sem_le tab prims (Nat.le_max_left k k')).1 _ _ _ _ h
  have h2:=(sem_le tab prims (Nat.le_max_right k k')).1 _ _ _ _ h'
  rw[h1] at h2
  exact Option.some.inj h2
 unfold callW
 constructor
 ·intro h
  split at h
  ·rename_i hx
   cases h
   exact hx.choose_spec
  ·cases h
 ·rintro ⟨k,h⟩
  have hx:∃r,∃k,(sem tab prims k).call c as m=some r:=⟨r,k,h⟩
  rw[dif_pos hx]
  obtain⟨k',h'⟩:=hx.choose_spec
  rw[uniq h' h]
theorem loopW_iff {hd:Head}{b:ICode}{st:St}{r:Ex×St}:loopW tab prims hd b st=some r↔∃k,(sem tab prims k).loop hd b st=some r:=by
 have uniq:∀{r r' k k'},(sem tab prims k).loop hd b st=some r→(sem tab prims k').loop hd b st=some r'→r=r':=by
  intro r r' k k' h h'
  have h1:=(sem_le tab prims (Nat.le_max_left k k')).2 _ _ _ _ h
  have h2:=(sem_le tab prims (Nat.le_max_right k k')).2 _ _ _ _ h'
  rw[h1] at h2
  exact Option.some.inj h2
 unfold loopW
 constructor
 ·intro h
  split at h
  ·rename_i hx
   cases h
   exact hx.choose_spec
  ·cases h
 ·rintro ⟨k,h⟩
  have hx:∃r,∃k,(sem tab prims k).loop hd b st=some r:=⟨r,k,h⟩
  rw[dif_pos hx]
  obtain⟨k',h'⟩:=hx.choose_spec
  rw[uniq h' h]
theorem callW_ge (k:Nat):CallLe (sem tab prims k).call (callW tab prims):=fun _ _ _ _ h=>callW_iff.2 ⟨k,h⟩
theorem loopW_ge (k:Nat):LoopLe (sem tab prims k).loop (loopW tab prims):=fun _ _ _ _ h=>loopW_iff.2 ⟨k,h⟩
theorem callI_fin {st:St}{f:Callee}{as:List IV}{hs:List Arg}{r:IV×Cap×St}(h:callI (callW tab prims) st f as hs=some r):∃k,callI (sem tab prims k).call st f as hs=some r:=by
 unfold callI at h
 split at h
 ·rename_i q hh e1 e2
  split at h
  ·cases h
  ·rename_i m em
   split at h
   ·cases h
   ·rename_i v m' ec
    obtain⟨k,hk⟩:=callW_iff.1 ec
    refine⟨k,?_⟩
    simp only[callI,e1,e2,em,hk]
    exact h
 ·cases h
theorem ik_fin {st:St}{k:IK}{r:IV×Cap×St}(h:k.run (callW tab prims) st=some r):∃n,k.run (sem tab prims n).call st=some r:=by
 cases k with
 |callF f as hs =>
  simp only[IK.run] at h ⊢
  split at h
  ·exact callI_fin h
  ·cases h
 |callV g as hs =>
  simp only[IK.run] at h ⊢
  split at h
  ·split at h
   ·exact callI_fin h
   ·exact callI_fin h
   ·cases h
  ·cases h
 |_=>exact⟨0,h⟩
theorem run0_fin {st:St}{o:IOp}{r:St}(h:o.run0 (callW tab prims) st=some r):∃n,o.run0 (sem tab prims n).call st=some r:=by
 unfold IOp.run0 at h ⊢
 split at h
 ·split at h
  ·rename_i e
   obtain⟨n,hn⟩:=ik_fin e
   exact⟨n,by rw[hn];exact h⟩
  ·cases h
 ·exact⟨0,h⟩
 ·cases h
theorem op_fin {st:St}{o:IOp}{r:St}(h:o.run (callW tab prims) st=some r):∃n,o.run (sem tab prims n).call st=some r:=by
 unfold IOp.run at h ⊢
 split at h
 ·split at h
  ·exact run0_fin h
  ·cases h
 ·exact run0_fin h
theorem ops_fin:∀{l:List IOp}{st r:St},runOps (callW tab prims) l st=some r→∃n,runOps (sem tab prims n).call l st=some r
 |[],_,_,h=>⟨0,h⟩
 |o::l,st,r,h=>by
  simp only[runOps] at h
  split at h
  ·rename_i e
   obtain⟨n1,h1⟩:=op_fin e
   obtain⟨n2,h2⟩:=ops_fin h
   refine⟨max n1 n2,?_⟩
   simp only[runOps]
   rw[op_mono (sem_le tab prims (Nat.le_max_left n1 n2)).1 h1]
   exact ops_mono (sem_le tab prims (Nat.le_max_right n1 n2)).1 h2
  ·cases h
theorem code_fin:∀{x:ICode}{st:St}{r:Ex×St},x.run (callW tab prims) (loopW tab prims) st=some r→∃n,x.run (sem tab prims n).call (sem tab prims n).loop st=some r
 |.skip,_,_,h=>⟨0,h⟩
 |.ops is,st,r,h=>by
  simp only[ICode.run] at h ⊢
  split at h
  ·rename_i e;obtain⟨n,hn⟩:=ops_fin e;exact⟨n,by rw[hn];exact h⟩
  ·cases h
 |.draw is _,st,r,h=>by
  simp only[ICode.run] at h ⊢
  split at h
  ·split at h
   ·rename_i e;obtain⟨n,hn⟩:=ops_fin e;exact⟨n,by rw[hn];exact h⟩
   ·cases h
  ·cases h
 |.seq a b,st,r,h=>by
  simp only[ICode.run] at h ⊢
  split at h
  ·rename_i e
   obtain⟨n1,h1⟩:=code_fin e
   obtain⟨n2,h2⟩:=code_fin h
   refine⟨max n1 n2,?_⟩
   rw[code_mono (sem_le tab prims (Nat.le_max_left n1 n2)).1 (sem_le tab prims (Nat.le_max_left n1 n2)).2 h1]
   exact code_mono (sem_le tab prims (Nat.le_max_right n1 n2)).1 (sem_le tab prims (Nat.le_max_right n1 n2)).2 h2
  ·rename_i hn
   obtain⟨n1,h1⟩:=code_fin h
   refine⟨n1,?_⟩
   rw[h1]
   split
   ·rename_i e;cases e;exact (hn _ h).elim
   ·rfl
 |.cond d a b,st,r,h=>by
  simp only[ICode.run] at h ⊢
  split at h
  ·exact code_fin h
  ·exact code_fin h
  ·cases h
 |.block id b,st,r,h=>by
  simp only[ICode.run] at h ⊢
  split at h
  ·rename_i e;obtain⟨n,hn⟩:=code_fin e;exact⟨n,by rw[hn];exact h⟩
  ·rename_i hn
   obtain⟨n1,h1⟩:=code_fin h
   refine⟨n1,?_⟩
   rw[h1]
   split
   ·rename_i e;cases e;exact (hn _ _ h).elim
   ·rfl
 |.loop hd b,st,r,h=>loopW_iff.1 (by simpa only[ICode.run] using h)
 |.rangeF g fn site,st,r,h=>by
  simp only[ICode.run] at h ⊢
  split at h
  ·split at h
   ·split at h
    ·rename_i e;obtain⟨n,hn⟩:=callW_iff.1 e;exact⟨n,by rw[hn];exact h⟩
    ·cases h
   ·cases h
  ·cases h
 |.exit _,_,_,h=>⟨0,h⟩
 |.ret,_,_,h=>⟨0,h⟩
theorem fcall_fin {fn:IFn}{as:List IV}{m:IM}{r:IV×IM}(h:fn.call (callW tab prims) (loopW tab prims) as m=some r):∃n,fn.call (sem tab prims n).call (sem tab prims n).loop as m=some r:=by
 unfold IFn.call at h ⊢
 split at h
 ·cases h
 ·rename_i hn
  simp only[if_neg hn]
  split at h
  ·rename_i e;obtain⟨n,hn'⟩:=code_fin e;exact⟨n,by rw[hn'];exact h⟩
  ·cases h
theorem rcall_fin {rn:IRnd}{id:Nat}{tm:Env}{as:List IV}{m:IM}{r:IV×IM}(h:rn.call (callW tab prims) (loopW tab prims) id tm as m=some r):∃n,rn.call (sem tab prims n).call (sem tab prims n).loop id tm as m=some r:=by
 unfold IRnd.call at h ⊢
 split at h
 ·cases h
 ·rename_i hn
  simp only[if_neg hn]
  split at h
  ·rename_i e
   obtain⟨n1,h1⟩:=code_fin e
   split at h
   ·rename_i e0
    split at h
    ·rename_i e1
     split at h
     ·rename_i e2
      obtain⟨n2,h2⟩:=code_fin e2
      refine⟨max n1 n2,?_⟩
      rw[code_mono (sem_le tab prims (Nat.le_max_left n1 n2)).1 (sem_le tab prims (Nat.le_max_left n1 n2)).2 h1]
      simp only[e0,e1]
      rw[code_mono (sem_le tab prims (Nat.le_max_right n1 n2)).1 (sem_le tab prims (Nat.le_max_right n1 n2)).2 h2]
      exact h
     ·cases h
    ·cases h
   ·cases h
  ·cases h
theorem callW_prim {f:FuncId}{p:List IV→Option IV}(hp:prims f=some p) (as:List IV) (m:IM):callW tab prims (.f f) as m=(p as).map (·,m):=by
 ext r
 rw[callW_iff]
 constructor
 ·rintro ⟨k,h⟩
  cases k with
  |zero=>simp[sem] at h
  |succ k=>rw[sem] at h;simp only[hp] at h;exact h
 ·intro h
  exact⟨1,by rw[sem];simp only[hp];exact h⟩
theorem callW_fn {f:FuncId}{fn:IFn}(hp:prims f=none) (hf:tab.fns f=some fn) (as:List IV) (m:IM):callW tab prims (.f f) as m=fn.call (callW tab prims) (loopW tab prims) as m:=by
 ext r
 rw[callW_iff]
 constructor
 ·rintro ⟨k,h⟩
  cases k with
  |zero=>simp[sem] at h
  |succ k=>rw[sem] at h;simp only[hp,hf] at h;exact fcall_mono (callW_ge k) (loopW_ge k) h
 ·intro h
  obtain⟨k,h⟩:=fcall_fin h
  exact⟨k+1,by rw[sem];simp only[hp,hf];exact h⟩
theorem callW_y {id:Nat}{m:IM}{bz fn site:Nat}{tm:Env}{j:Nat}{r:IRnd}(hm:m.get id=.loop bz fn site tm j) (hr:tab.rnd fn site=some r) (as:List IV) :
  callW tab prims (.y id) as m=r.call (callW tab prims) (loopW tab prims) id tm as m:=by
 ext q
 rw[callW_iff]
 constructor
 ·rintro ⟨k,h⟩
  cases k with
  |zero=>simp[sem] at h
  |succ k=>rw[sem] at h;simp only[hm,hr] at h;exact rcall_mono (callW_ge k) (loopW_ge k) h
 ·intro h
  obtain⟨k,h⟩:=rcall_fin h
  exact⟨k+1,by rw[sem];simp only[hm,hr];exact h⟩
theorem loopW_eq (hd:Head) (b:ICode) (st:St):loopW tab prims hd b st=match st.head hd with
  |none=>none
  |some st=>match b.run (callW tab prims) (loopW tab prims) st with
   |some (.normal,st)=>loopW tab prims hd b st
   |r=>r:=by
 ext q
 rw[loopW_iff]
 constructor
 ·rintro ⟨k,h⟩
  cases k with
  |zero=>simp[sem] at h
  |succ k =>
   rw[sem] at h
   simp only at h
   split at h
   ·cases h
   ·rename_i s1 e1
    rw[e1]
    simp only
    split at h
    ·rename_i e;rw[code_mono (callW_ge k) (loopW_ge k) e];exact loopW_ge k _ _ _ _ h
    ·rename_i hn;rw[code_mono (callW_ge k) (loopW_ge k) h]
     split
     ·rename_i e;cases e;exact (hn _ h).elim
     ·rfl
 ·intro h
  split at h
  ·cases h
  ·rename_i s1 e1
   split at h
   ·rename_i s2 e
    obtain⟨n1,h1⟩:=code_fin e
    obtain⟨n2,h2⟩:=loopW_iff.1 h
    refine⟨max n1 n2+1,?_⟩
    rw[sem]
    simp only[e1]
    rw[code_mono (sem_le tab prims (Nat.le_max_left n1 n2)).1 (sem_le tab prims (Nat.le_max_left n1 n2)).2 h1]
    exact (sem_le tab prims (Nat.le_max_right n1 n2)).2 _ _ _ _ h2
   ·rename_i hn
    obtain⟨n1,h1⟩:=code_fin h
    refine⟨n1+1,?_⟩
    rw[sem]
    simp only[e1,h1]
    split
    ·rename_i e;cases e;exact (hn _ h).elim
    ·rfl
variable (tab prims)
noncomputable def lc (hd:Head) (b:ICode):Option St→Option (Ex×St)
 |none=>none
 |some st=>match b.run (callW tab prims) (loopW tab prims) st with
  |some (.normal,st)=>loopW tab prims hd b st
  |r=>r
variable {tab prims}
theorem loopW_lc (hd:Head) (b:ICode) (st:St):loopW tab prims hd b st=lc tab prims hd b (st.head hd):=by
 rw[loopW_eq]
 cases st.head hd with
 |none=>rfl
 |some st=>rfl
theorem lc_some (hd:Head) (b:ICode) (st:St):lc tab prims hd b (some st)=match b.run (callW tab prims) (loopW tab prims) st with
  |some (.normal,st)=>lc tab prims hd b (st.head hd)
  |r=>r:=by
 have:lc tab prims hd b (some st)=match b.run (callW tab prims) (loopW tab prims) st with
  |some (.normal,st)=>loopW tab prims hd b st
  |r=>r:=rfl
 rw[this]
 cases b.run (callW tab prims) (loopW tab prims) st with
 |none=>rfl
 |some r =>
  obtain⟨e,st'⟩:=r
  cases e with
  |normal=>exact loopW_lc hd b st'
  |exit i=>rfl
  |ret=>rfl
end Go.Idl
namespace Go.Idl
open Go.RowKit
variable {X:Ctx}{G:Gh}{w w':World}
def POK (X:Ctx) (f:FuncId) (p:List IV→Option IV):Prop:=∀args v,p args=some v→(∀id,IV.yld id∉args) ∧
 ∀G m w rs,MR X G m w→WF X G w→(∀k,G.lb k=none)→VRs G args rs→Reach X f rs w (After X G w m v)
theorem after_below {m : IM} {v : IV} {r : Value} (hm : MR X G m w) (hw : WF X G w) (hl : ∀ k, G.lb k = none) (hv : VR G v r) (hb : Below w.heap.size w w') : After X G w m v r w' := by
  have hk : ∀ b, b < w.heap.size → w'.heap[b]? = w.heap[b]? := hb.block
  have hbx : ∀ id b, G.bx id = some b → b < w.heap.size := fun id b e => hw.boxlt b (.inl ⟨id, e⟩)
  refine ⟨G, ⟨?_, ?_, hm.dom, hm.hid⟩, ?_, hv, ?_⟩
  · intro id hn
    obtain ⟨b, ro, e1, e2, e3⟩ := hm.bx id hn
    exact ⟨b, ro, e1, by rw [hk b (hbx id b e1)]; exact e2, e3⟩
  · intro id cs cp off sz e1 e2 b r e3 e4
    rw [hb.cell (p := ⟨b, off, none⟩) (hbx id b e3)] at e4
    exact hm.own id cs cp off sz e1 e2 b r e3 e4
  · have lt_imm : ∀ b o v, G.imm b o = some v → b < w.heap.size := fun b o v e => by
      have := hw.imm b o v e
      rcases Nat.lt_or_ge b w.heap.size with h | h
      · exact h
      · simp [World.cell?, Array.getElem?_eq_none h] at this
    have lt_ow : ∀ b o l, G.ow b o = some l → b < w.heap.size := fun b o l e => by
      have := (hw.owcell b o l e).1
      rcases Nat.lt_or_ge b w.heap.size with h | h
      · exact h
      · simp [World.cell?, Array.getElem?_eq_none h] at this
    exact { imm := fun b o v e => by rw [hb.cell (p := ⟨b, o, none⟩) (lt_imm b o v e)]; exact hw.imm b o v e, inj := hw.inj, linj := hw.linj, disj := hw.disj,
            boxlt := fun b h => Nat.lt_of_lt_of_le (hw.boxlt b h) hb.size, boximm := hw.boximm, boxow := hw.boxow, owimm := hw.owimm,
            owcell := fun b o l e => by rw [hb.cell (p := ⟨b, o, none⟩) (lt_ow b o l e), hb.frozen (p := ⟨b, o, none⟩) (lt_ow b o l e)]; exact hw.owcell b o l e, glob := hw.glob, old := Nat.le_trans hw.old hb.size }
  · exact { os := hb.os, tape := hb.tape, output := hb.output, size := hb.size, imm := fun _ _ _ e => e, bx := fun _ _ e => e,
            other := fun b o e _ _ => by rw [hk b (heap_lt e)]; exact e,
            cells := fun b c t f e _ => ⟨c, f, by rw [hk b (heap_lt e)]; exact e, rfl, fun _ _ => rfl, .inl rfl⟩,
            immNew := fun _ _ _ _ _ e => .inl e, owNew := fun b o l _ e => by rw [e]; rfl, boxNew := fun _ _ q => q, hid := rfl, old := rfl, bxNew := fun _ _ e => .inl e,
            loop := fun b L e => ⟨L, by rw [hk b (heap_lt e)]; exact e⟩ }
theorem after_same {m:IM}{v:IV}{r:Value}(hm:MR X G m w) (hw:WF X G w) (hv:VR G v r):After X G w m v r w:=⟨G,hm,hw,hv,Step.refl _ _⟩
theorem pok_extern {f:FuncId}{p:List IV→Option IV}{e:Array Value→Sem Value}(hc:∀args w,(callFunc f args).run X.P w=((e args).run X.P w).andThen fun v w'=>.ok (.value v) w')
  (hp:∀args v,p args=some v→(∀id,IV.yld id∉args)∧∀G w rs,VRs G args rs→∃r,(e ⟨rs⟩).run X.P w=.ok r w∧VR G v r):POK X f p:=by
 intro args v h
 obtain⟨h1,h2⟩:=hp args v h
 refine⟨h1,fun G m w rs hm hw hl ha=>?_⟩
 obtain⟨r,e1,e2⟩:=h2 G w rs ha
 exact .inr ⟨r,w,by rw[hc,e1];rfl,after_same hm hw e2⟩
theorem pok_calls {f:FuncId}{p:List IV→Option IV}{fn:Func}(hf:X.P.funcs[f]?=some fn) (hb:fn.body.isNone=false) (hn:(fn.name == "runtime.NumGoroutine")=false)
  (hp:∀args v,p args=some v→(∀id,IV.yld id∉args)∧∀G w rs,VRs G args rs→Calls X.P f ⟨rs⟩ w fun e w'=>∃r,e=.returned r∧VR G v r∧Below w.heap.size w w'):POK X f p:=by
 intro args v h
 obtain⟨h1,h2⟩:=hp args v h
 refine⟨h1,fun G m w rs hm hw hl ha=>.inl ⟨?_,callsIn_wide.2 ((h2 G w rs ha).mono fun e w' ⟨r,q1,q2,q3⟩=>⟨r,q1,after_below hm hw hl q2 q3⟩)⟩⟩
 have hpr:(program).run X.P w=.ok X.P w:=rfl
 have h1:fn.name ≠ "runtime.NumGoroutine" := by simpa using hn
 cases hbb:fn.body with
 |none=>rw[hbb] at hb;cases hb
 |some c=>simp[callFunc,hpr,hf,h1,hbb]
theorem vrs_two {a b:IV}{rs:List Value}(h:VRs G [a,b] rs):∃x y,rs=[x,y]∧VR G a x∧VR G b y:=by
 obtain⟨x,r1,rfl,h1,h⟩:=h.cases_cons
 obtain⟨y,r2,rfl,h2,h⟩:=h.cases_cons
 rw[h.cases_nil]
 exact⟨x,y,rfl,h1,h2⟩
def atoB:Nat→List UInt8→Option Nat
 |acc,[]=>some acc
 |acc,b::r=>match Nat.ble 48 b.toNat&&Nat.ble b.toNat 57 with
  |true=>atoB (acc*10+(b.toNat-48)) r
  |false=>none
theorem atoB_eq:∀(l:List UInt8) (acc:Nat),atoB acc l=Lib.decFrom acc l
 |[],acc=>rfl
 |b::r,acc=>by
  rw[atoB,Lib.decFrom,Lib.digitVal]
  by_cases h:48≤b.toNat∧b.toNat≤57
  ·have e:(Nat.ble 48 b.toNat&&Nat.ble b.toNat 57)=true:=by simp[h.1,h.2]
   rw[e,if_pos h]
   exact atoB_eq r _
  ·have e:(Nat.ble 48 b.toNat&&Nat.ble b.toNat 57)=false:=by
    cases q:(Nat.ble 48 b.toNat&&Nat.ble b.toNat 57) with
    |false=>rfl
    |true=>simp only[Bool.and_eq_true,Nat.ble_eq] at q;exact (h q).elim
   rw[e,if_neg h]
theorem atoB_atoi {b:UInt8}{r:List UInt8}{n:Nat}(h:atoB 0 (b::r)=some n):Lib.atoi (b::r)=some (n:Int):=by
 have hd:48≤b.toNat∧b.toNat≤57:=by
  rw[atoB] at h
  cases q:(Nat.ble 48 b.toNat&&Nat.ble b.toNat 57) with
  |false=>rw[q] at h;cases h
  |true=>simpa only[Bool.and_eq_true,Nat.ble_eq] using q
 have h1:(b==45)=false:=by
  rw[beq_eq_false_iff_ne];rintro rfl;simp at hd
 have h2:(b==43)=false:=by
  rw[beq_eq_false_iff_ne];rintro rfl;simp at hd
 rw[atoB_eq] at h
 simp[Lib.atoi,Lib.decNat,h1,h2,h]
def pAtoi:List IV→Option IV
 |[.str (b::r)]=>match Nat.ble r.length 17 with
  |true=>match atoB 0 (b::r) with
   |some n=>some (.tup [.int .i64 n,.nilIface])
   |none=>none
  |false=>none
 |_=>none
theorem pok_atoi {f:FuncId}{fn:Func}(hf:X.P.funcs[f]?=some fn) (hb:fn.body.isNone=false) (hn:(fn.name == "runtime.NumGoroutine")=false)
  (hc:∀(s:ByteArray) (n:Int) (w:World),s.size≤18→Lib.atoi s.data.toList=some n→Calls X.P f #[.string s] w fun e w'=>e=.returned (.tuple #[.int .i64 n,.nilIface])∧Below w.heap.size w w'):POK X f pAtoi:=by
 refine pok_calls hf hb hn fun args v h=>?_
 unfold pAtoi at h
 split at h
 ·rename_i b r
  split at h
  ·rename_i hl
   split at h
   ·rename_i n hn
    cases h
    refine⟨by simp,fun G w rs ha=>?_⟩
    obtain⟨x,r1,rfl,h1,h⟩:=ha.cases_cons
    rw[h.cases_nil]
    cases h1
    refine (hc ⟨⟨b::r⟩⟩ n w (by have:=Nat.le_of_ble_eq_true hl;show (b::r).length≤18;rw[List.length_cons];omega) (atoB_atoi hn)).mono fun e w' ⟨q1,q2⟩=>⟨_,q1,?_,q2⟩
    have hv:VRs G [.int .i64 (n:Int),.nilIface] [.int .i64 (n:Int),.nilIface]:=VRs.cons (.int _ _) (VRs.cons .nilIface VRs.nil)
    exact .tup _ [.int .i64 (n:Int),.nilIface] hv.1 hv.2
   ·cases h
  ·cases h
 ·cases h
end Go.Idl
namespace Go.Idl
open Go.RowKit
variable {X:Ctx}{G:Gh}{w w':World}
def pAdd64:List IV→Option IV
 |[.int .u64 x,.int .u64 y,.int .u64 c]=>match decide (0≤x)&&decide (0≤y)&&decide (0≤c)&&decide (c≤1) with
  |true=>some (.tup [.int .u64 ((x+y+c)%18446744073709551616),.int .u64 ((x+y+c)/18446744073709551616)])
  |false=>none
 |_=>none
theorem vrs_three {a b c:IV}{rs:List Value}(h:VRs G [a,b,c] rs):∃x y z,rs=[x,y,z]∧VR G a x∧VR G b y∧VR G c z:=by
 obtain⟨x,r1,rfl,h1,h⟩:=h.cases_cons
 obtain⟨y,z,rfl,h2,h3⟩:=vrs_two h
 exact⟨x,y,z,rfl,h1,h2,h3⟩
theorem pok_add64 {f:FuncId}(hc:∀args w,(callFunc f args).run X.P w=((add64Entry args).run X.P w).andThen fun v w'=>.ok (.value v) w'):POK X f pAdd64:=by
 refine pok_extern hc fun args v h=>?_
 unfold pAdd64 at h
 split at h
 ·rename_i x y c
  split at h
  ·rename_i hcond
   cases h
   simp only[Bool.and_eq_true,decide_eq_true_eq] at hcond
   obtain⟨⟨⟨h0,h1⟩,h2⟩,h3⟩:=hcond
   refine⟨by simp,fun G w rs ha=>?_⟩
   obtain⟨a,b,d,rfl,k1,k2,k3⟩:=vrs_three ha
   cases k1;cases k2;cases k3
   refine⟨_,run_add64 x y c h0 h1 h2 h3 w,?_⟩
   have hv:VRs G [.int .u64 ((x+y+c)%18446744073709551616),.int .u64 ((x+y+c)/18446744073709551616)] [.int .u64 ((x+y+c)%18446744073709551616),.int .u64 ((x+y+c)/18446744073709551616)]:=VRs.cons (.int _ _) (VRs.cons (.int _ _) VRs.nil)
   exact .tup _ [_,_] hv.1 hv.2
  ·cases h
 ·cases h
end Go.Idl
