/- This text proves that a reckoned check of the code suffices, gives the equations of runs without a bound, and proves what the taken library functions return; it has no conditions. -/
import Derived.Test.YtihkfdkoncekmaaGreatDoorIdd
import Derived.Test.YtihkfdkoncekmaaGreatDoorIda
import Derived.Lib.Bytealg
import Derived.Lib.Repeat
import Derived.Lib.IndexAny
import Derived.Below
set_option linter.unusedSimpArgs false
set_option linter.unusedVariables false
namespace Go.Idl
mutual
def ckV:Nat→IV→Value→Bool
 |0,_,_=>false
 |n+1,x,v=>match x,v with
  |.bool b,.bool c=>b==c
  |.int k i,.int k' i'=>decide (k=k')&&decide (i=i')
  |.float k b,.float k' b'=>decide (k=k')&&Nat.beq b b'
  |.cplx k a b,.complex k' a' b'=>decide (k=k')&&Nat.beq a a'&&Nat.beq b b'
  |.str s,.string t=>decide (s=t.data.toList)
  |.nilPtr,.pointer none=>true
  |.nilSlice,.slice none 0 0=>true
  |.nilMap,.map none=>true
  |.nilFunc,.nilFunc=>true
  |.nilIface,.nilIface=>true
  |.func f [] [],.func (.func g) a b=>Nat.beq f g&&a.toList.isEmpty&&b.toList.isEmpty
  |.agg cs,.agg rc=>xP n cs rc.toList
  |.tup cs,.tuple rc=>xP n cs rc.toList
  |.iface t x,.iface u v=>Nat.beq t u&&ckV n x v
  |_,_=>false
def xP:Nat→List IV→List Value→Bool
 |0,_,_=>false
 |n+1,cs,rc=>match cs,rc with
  |[],[]=>true
  |x::xs,v::vs=>ckV n x v&&xP n xs vs
  |_,_=>false
end
theorem eM {i j:Nat}(h:Nat.beq i j=true):i=j:=Nat.eq_of_beq_eq_true h
mutual
theorem kI:∀(n:Nat) (x:IV) (v:Value),ckV n x v=true→∀G,VR G x v
 |0,_,_,h=>by simp[ckV] at h
 |n+1,x,v,h=>by
  intro G
  simp only[ckV] at h
  split at h
  ·simp only[beq_iff_eq] at h;subst h;exact .bool _
  ·simp only[Bool.and_eq_true,decide_eq_true_eq] at h;obtain⟨rfl,rfl⟩:=h;exact .int _ _
  ·simp only[Bool.and_eq_true,decide_eq_true_eq] at h;obtain⟨rfl,h⟩:=h;rw[eM h];exact .float _ _
  ·simp only[Bool.and_eq_true,decide_eq_true_eq] at h;obtain⟨⟨rfl,h1⟩,h2⟩:=h;rw[eM h1,eM h2];exact .cplx _ _ _
  ·rename_i s t
   simp only[decide_eq_true_eq] at h
   obtain⟨⟨l⟩⟩:=t
   simp only at h
   subst h
   exact .str _
  ·exact .nilPtr
  ·exact .nilSlice
  ·exact .nilMap
  ·exact .nilFunc
  ·exact .nilIface
  ·rename_i f g a b
   simp only[Bool.and_eq_true,List.isEmpty_iff] at h
   obtain⟨⟨h1,h2⟩,h3⟩:=h
   rw[eM h1]
   obtain⟨a⟩:=a
   obtain⟨b⟩:=b
   simp only at h2 h3
   subst h2;subst h3
   exact .func _ [] [] [] [] rfl rfl (fun i h=>absurd h (by simp)) (fun i h=>absurd h (by simp))
  ·rename_i cs rc
   obtain⟨rc⟩:=rc
   exact VR.agg' (ju n cs rc h G)
  ·rename_i cs rc
   obtain⟨rc⟩:=rc
   exact VR.tup' (ju n cs rc h G)
  ·simp only[Bool.and_eq_true] at h
   rw[eM h.1]
   exact .iface _ _ _ (kI n _ _ h.2 G)
  ·cases h
theorem ju:∀(n:Nat) (xs:List IV) (vs:List Value),xP n xs vs=true→∀G,VRs G xs vs
 |0,_,_,h=>by simp[xP] at h
 |n+1,xs,vs,h=>by
  intro G
  simp only[xP] at h
  split at h
  ·exact VRs.nil
  ·simp only[Bool.and_eq_true] at h
   exact VRs.cons (kI n _ _ h.1 G) (ju n _ _ h.2 G)
  ·cases h
end
def eqV:IV→IV→Bool
 |.bool b,.bool c=>b==c
 |.int k i,.int k' i'=>decide (k=k')&&decide (i=i')
 |.str s,.str t=>decide (s=t)
 |.nilPtr,.nilPtr=>true
 |.nilSlice,.nilSlice=>true
 |.func f [] [],.func g [] []=>Nat.beq f g
 |.nilFunc,.nilFunc=>true
 |_,_=>false
def zz:List IV→List IV→Bool
 |[],[]=>true
 |x::xs,y::ys=>eqV x y&&zz xs ys
 |_,_=>false
theorem zb {x y:IV}(h:eqV x y=true):x=y:=by
 unfold eqV at h
 split at h<;>first | rfl | (cases h;done) | skip
 ·simp only[beq_iff_eq] at h;rw[h]
 ·simp only[Bool.and_eq_true,decide_eq_true_eq] at h;obtain⟨rfl,rfl⟩:=h;rfl
 ·simp only[decide_eq_true_eq] at h;rw[h]
 ·rw[eM h]
theorem qs:∀{xs ys:List IV},zz xs ys=true→xs=ys
 |[],[],_=>rfl
 |x::xs,y::ys,h=>by
  simp only[zz,Bool.and_eq_true] at h
  rw[zb h.1,qs h.2]
 |[],_::_,h=>by simp[zz] at h
 |_::_,[],h=>by simp[zz] at h
section
variable (P:Program) (rows:Nat→Option (List IV))
def dW:Operand→Arg→Bool
 |.tmp i,.t j=>Nat.beq i j
 |.const v,.c x=>ckV 20000 x v
 |.global g,.c (.pI row 0)=>match rows g with
  |some r=>zz r row
  |none=>false
 |.func f,.c (.func g [] [])=>Nat.beq f g
 |_,_=>false
def jv:List Operand→List Arg→Bool
 |[],[]=>true
 |x::xs,a::as=>dW rows x a&&jv xs as
 |_,_=>false
variable {rows}
theorem aF {x:Operand}{a:Arg}(h:dW rows x a=true):ArgR rows x a:=by
 unfold dW at h
 split at h
 ·rw[eM h];exact .tmp _
 ·exact .const _ _ (kI _ _ _ h)
 ·split at h
  ·rename_i r hr
   rw[←qs h]
   exact .glob _ _ hr
  ·cases h
 ·rw[eM h];exact .func _
 ·cases h
theorem gh:∀{xs:List Operand}{as:List Arg},jv rows xs as=true→ArgsR rows xs as
 |[],[],_=>.nil
 |x::xs,a::as,h=>by
  simp only[jv,Bool.and_eq_true] at h
  exact .cons (aF h.1) (gh h.2)
 |[],_::_,h=>by simp[jv] at h
 |_::_,[],h=>by simp[jv] at h
end
def Ad:TypeDesc→Bool
 |.struct _ | .array _ _=>true
 |_=>false
def jL (P:Program) (t:TypeId) (n:Nat) (agg:Bool):Bool :=
 match P.underlying t,P.info? t with
 |some d,some i=>Nat.beq i.size n&&(agg==Ad d)&&(agg||Nat.beq n 1)
 |_,_=>false
theorem dD {P:Program}{t:TypeId}{n:Nat}{agg:Bool}(h:jL P t n agg=true):∃d bytes,TyR P t d n bytes agg∧∃i,P.info? t=some i∧i.bytes=bytes:=by
 unfold jL at h
 split at h
 ·rename_i d i e1 e2
  simp only[Bool.and_eq_true,beq_iff_eq,Bool.or_eq_true] at h
  obtain⟨⟨h1,h2⟩,h3⟩:=h
  refine⟨d,i.bytes,⟨e1,⟨i,e2,eM h1,rfl⟩,by rw[h2];cases d<;>rfl,fun ha=>?_⟩,i,e2,rfl⟩
  rcases h3 with q | q
  ·rw[ha] at q;cases q
  ·exact eM q
 ·cases h
def kQ (P:Program) (t:TypeId):Nat:=match P.info? t with | some i=>i.size | none=>0
def bytesOf (P:Program) (t:TypeId):Nat:=match P.info? t with | some i=>i.bytes | none=>0
def ov (P:Program) (t:TypeId):Bool:=match P.underlying t with | some d=>Ad d | none=>false
def r5 (P:Program) (t:TypeId):Bool:=jL P t (kQ P t) (ov P t)
def iQ (P:Program) (t:TypeId) (zero:List IV):Bool :=
 match P.info? t with
 |some i=>match i.zero with
  |some v=>Nat.beq i.size zero.length&&xP 20000 zero v.cells.toList
  |none=>false
 |none=>false
theorem eJ {P:Program}{t:TypeId}{zero:List IV}(h:iQ P t zero=true):f7 P t zero:=by
 unfold iQ at h
 split at h
 ·rename_i i ei
  split at h
  ·rename_i v ev
   simp only[Bool.and_eq_true] at h
   have hv:=ju _ _ _ h.2
   exact⟨i,v,ei,ev,(hv ⟨fun _ _=>none,fun _=>none,fun _=>none,fun _ _=>none,fun _=>false,0⟩).1,eM h.1,hv⟩
  ·cases h
 ·cases h
def ud:EqD→TypeDesc→Bool
 |.bool,.bool=>true
 |.int,.int _=>true
 |.str,.string=>true
 |.float,.float _=>true
 |.ptr,.pointer _=>true
 |.slice,.slice _=>true
 |.func,.func ..=>true
 |.map,.map ..=>true
 |_,_=>false
theorem hH {e:EqD}{d:TypeDesc}(h:ud e d=true):gz e d:=by
 cases e<;>cases d<;>first | trivial | cases h
def Bq:EqD→TypeDesc→Bool
 |.bool,.bool=>true
 |.int,.int _=>true
 |.str,.string=>true
 |_,_=>false
theorem oc {e:EqD}{d:TypeDesc}(h:Bq e d=true):hJ e d:=by
 cases e<;>cases d<;>first | trivial | cases h
def iL:List (Nat×Nat)→List (Nat×Nat)→Bool
 |[],[]=>true
 |(a,b)::r,(c,d)::s=>Nat.beq a c&&Nat.beq b d&&iL r s
 |_,_=>false
theorem gG:∀{r s:List (Nat×Nat)},iL r s=true→r=s
 |[],[],_=>rfl
 |(a,b)::r,(c,d)::s,h=>by
  simp only[iL,Bool.and_eq_true] at h
  rw[eM h.1.1,eM h.1.2,gG h.2]
 |[],_::_,h=>by simp[iL] at h
 |_::_,[],h=>by simp[iL] at h
def gX (P:Program) (t:TypeId):Bool:=match P.underlying t with | some .string=>true | _=>false
def rB (P:Program) (t:TypeId):Option IntKind:=match P.underlying t with | some (.int k)=>some k | _=>none
def iK (P:Program) (t:TypeId):Option TypeId:=match P.underlying t with | some (.slice e)=>some e | _=>none
def mz (P:Program) (t:TypeId):Bool:=match P.underlying t with | some (.int .u8)=>true | _=>false
def te (P:Program) (t:TypeId):Option (Nat×TypeId):=match P.underlying t with | some (.array n e)=>some (n,e) | _=>none
def km (P:Program) (t:TypeId):Option (Array Field):=match P.underlying t with | some (.struct f)=>some f | _=>none
def JD (P:Program) (t:TypeId):Option TypeId:=match P.underlying t with | some (.pointer e)=>some e | _=>none
def Cj (P:Program) (t:TypeId):Option (TypeId×TypeId):=match P.underlying t with | some (.map k e)=>some (k,e) | _=>none
theorem fM {P:Program}{t:TypeId}(h:gX P t=true):P.underlying t=some .string:=by
 unfold gX at h;split at h<;>first | assumption | cases h
theorem rb {P:Program}{t:TypeId}{k:IntKind}(h:rB P t=some k):P.underlying t=some (.int k):=by
 unfold rB at h;split at h<;>first | (cases h;assumption) | cases h
theorem fQ {P:Program}{t e:TypeId}(h:iK P t=some e):P.underlying t=some (.slice e):=by
 unfold iK at h;split at h<;>first | (cases h;assumption) | cases h
theorem nI {P:Program}{t:TypeId}(h:mz P t=true):P.underlying t=some (.int .u8):=by
 unfold mz at h;split at h<;>first | assumption | cases h
theorem lx {P:Program}{t:TypeId}{n:Nat}{e:TypeId}(h:te P t=some (n,e)):P.underlying t=some (.array n e):=by
 unfold te at h;split at h<;>first | (cases h;assumption) | cases h
theorem kF {P:Program}{t:TypeId}{f:Array Field}(h:km P t=some f):P.underlying t=some (.struct f):=by
 unfold km at h;split at h<;>first | (cases h;assumption) | cases h
theorem HQ {P:Program}{t e:TypeId}(h:JD P t=some e):P.underlying t=some (.pointer e):=by
 unfold JD at h;split at h<;>first | (cases h;assumption) | cases h
theorem xA {P:Program}{t k e:TypeId}(h:Cj P t=some (k,e)):P.underlying t=some (.map k e):=by
 unfold Cj at h;split at h<;>first | (cases h;assumption) | cases h
def mL (P:Program):List Field→Bool
 |[]=>true
 |f::r=>r5 P f.type&&mL P r
theorem mx {P:Program}:∀{l:List Field},mL P l=true→∀(j:Nat) f,l[j]?=some f→r5 P f.type=true
 |[],_,j,f,h=>by simp at h
 |g::l,h,j,f,hf=>by
  simp only[mL,Bool.and_eq_true] at h
  cases j with
  |zero=>simp only[List.getElem?_cons_zero,Option.some.injEq] at hf;subst hf;exact h.1
  |succ j=>exact mx h.2 j f (by simpa using hf)
def rC (P:Program) (fields:List Field):List (Nat×Operand)→Option (List (Nat×Nat))
 |[]=>some []
 |p::r=>match fields[p.1]?,rC P fields r with
  |some f,some l=>some ((f.offset,kQ P f.type)::l)
  |_,_=>none
theorem mW {P:Program}{fields:Array Field}:∀{ps:List (Nat×Operand)}{l:List (Nat×Nat)},rC P fields.toList ps=some l →
  l=ps.map (fun p=>(((fields[p.1]?).map (·.offset)).getD 0,(((fields[p.1]?).map fun f=>kQ P f.type).getD 0)))∧∀p∈ps,p.1<fields.size
 |[],l,h=>by simp only[rC,Option.some.injEq] at h;subst h;simp
 |p::r,l,h=>by
  simp only[rC] at h
  split at h
  ·rename_i f l' e1 e2
   simp only[Option.some.injEq] at h
   subst h
   obtain⟨h1,h2⟩:=mW e2
   have e1':fields[p.1]?=some f:=by simpa using e1
   refine⟨by rw[List.map_cons,←h1,e1'];rfl,fun q hq=>?_⟩
   rcases List.mem_cons.1 hq with rfl | hq
   ·exact (Array.getElem?_eq_some_iff.1 e1').1
   ·exact h2 q hq
  ·cases h
end Go.Idl
namespace Go.Idl
theorem p6 {P:Program}{t:TypeId}{d:TypeDesc}{n:Nat}{agg:Bool}(hu:P.underlying t=some d) (h:jL P t n agg=true):∃bytes,TyR P t d n bytes agg∧bytesOf P t=bytes:=by
 obtain⟨d',bytes,ht,i,h1,h2⟩:=dD h
 have:=ht.und
 rw[hu] at this
 cases this
 exact⟨bytes,ht,by simp[bytesOf,h1,h2]⟩
theorem fX {P:Program}{t:TypeId}(h:r5 P t=true):∃d b,TyR P t d (kQ P t) b (ov P t):=by
 obtain⟨d,b,ht,-⟩:=dD h
 exact⟨d,b,ht⟩
def when {α:Type}(b:Bool) (x:α):Option α:=match b with | true=>some x | false=>none
theorem dg {α:Type}{b:Bool}{x y:α}(h:when b x=some y):b=true∧x=y:=by
 unfold when at h;split at h<;>first | (cases h;exact⟨rfl,rfl⟩) | cases h
def uv {α:Type}(o:Option α) (b:Bool):Bool:=o.isSome==b
def kY:Op→Option (Builtin×List Operand×List TypeId)
 |.call ⟨.builtin b,xs,ts⟩=>some (b,xs.toList,ts.toList)
 |_=>none
theorem iM {op:Op}{b:Builtin}{xs:List Operand}{ts:List TypeId}(h:kY op=some (b,xs,ts)):op=.call ⟨.builtin b,⟨xs⟩,⟨ts⟩⟩:=by
 unfold kY at h
 split at h
 ·rename_i b' xs' ts'
  obtain⟨xs'⟩:=xs'
  obtain⟨ts'⟩:=ts'
  cases h;rfl
 ·cases h
def nN (P:Program):List Field→List (Nat×EqD)→Bool
 |[],[]=>true
 |f::fs,(o,d)::plan=>!(f.name == "_")&&Nat.beq o f.offset&&(match P.underlying f.type with | some d'=>ud d d' | none=>false)&&jL P f.type (kQ P f.type) false&&nN P fs plan
 |_,_=>false
theorem mG {P:Program}:∀{fs:List Field}{plan:List (Nat×EqD)},nN P fs plan=true→PlanR P fs plan
 |[],[],_=>.nil
 |f::fs,(o,d)::plan,h=>by
  simp only[nN,Bool.and_eq_true,Bool.not_eq_true'] at h
  obtain⟨⟨⟨⟨h1,h2⟩,h3⟩,h4⟩,h5⟩:=h
  rw[eM h2]
  split at h3
  ·rename_i d' e
   obtain⟨b,q,-⟩:=p6 e h4
   exact .cons (by simpa using h1) q (hH h3) (mG h5)
  ·cases h3
 |[],_::_,h=>by simp[nN] at h
 |_::_,[],h=>by simp[nN] at h
def sy (ed:EqD):Nat→Nat→List (Nat×EqD)→Bool
 |_,0,[]=>true
 |i,n+1,(j,d)::r=>Nat.beq i j&&decide (ed=d)&&sy ed (i+1) n r
 |_,_,_=>false
theorem ob {ed:EqD}:∀{n i:Nat}{plan:List (Nat×EqD)},sy ed i n plan=true→plan=(List.range' i n).map fun i=>(i,ed)
 |0,i,[],_=>rfl
 |n+1,i,(j,d)::r,h=>by
  simp only[sy,Bool.and_eq_true,decide_eq_true_eq] at h
  obtain⟨⟨h1,h2⟩,h3⟩:=h
  rw[List.range'_succ,List.map_cons,←ob h3,←h2,eM h1]
 |0,i,_::_,h=>by simp[sy] at h
 |_+1,i,[],h=>by simp[sy] at h
def ckP (P:Program) (op:Op):POp→Option (List Operand)
 |.pick=>match op with | .pick c a b=>some [c,a,b] | _=>none
 |.build zero parts=>match op with
  |.build t ps=>match km P t with
   |some fields=>match rC P fields.toList ps.toList with
    |some l=>when (iL parts l&&iQ P t zero&&mL P fields.toList&&jL P t (kQ P t) true) (ps.toList.map (·.2))
    |none=>none
   |none=>match te P t with
    |some (_,e)=>when (iL parts (ps.toList.map fun p=>(p.1*kQ P e,kQ P e))&&iQ P t zero&&r5 P e&&jL P t (kQ P t) true) (ps.toList.map (·.2))
    |none=>none
  |_=>none
 |.nilCheck=>match op with | .nilCheck x=>some [x] | _=>none
 |.bin o=>match op with | .binOp o' _ x y _=>when (decide (o'=o)) [x,y] | _=>none
 |.eq neg d=>match op with
  |.binOp o t x y _=>match P.underlying t with
   |some d'=>when ((if neg then decide (o=.neq) else decide (o=.eql))&&r5 P t&&ud d d') [x,y]
   |none=>none
  |_=>none
 |.eqAgg neg plan=>match op with
  |.binOp o t x y _=>match km P t with
   |some fields=>when ((if neg then decide (o=.neq) else decide (o=.eql)) && !P.stoodInHeld t && !P.eqGuardType P.depth t&&nN P fields.toList plan) [x,y]
   |none=>match te P t,plan with
    |some (len,e),(_,ed)::_=>match P.underlying e with
     |some d=>when ((if neg then decide (o=.neq) else decide (o=.eql)) && !P.eqGuardType P.depth t&&ud ed d&&jL P e 1 false&&sy ed 0 len plan) [x,y]
     |none=>none
    |_,_=>none
  |_=>none
 |.un o=>match op with | .unOp o' _ x=>when (decide (o'=o)) [x] | _=>none
 |.convInt k=>match op with | .convert s d x=>when ((rB P s).isSome&&decide (rB P d=some k)) [x] | _=>none
 |.convStr=>match op with | .convert s d x=>when (gX P s&&gX P d) [x] | _=>none
 |.intStr=>match op with | .convert s d x=>when ((rB P s).isSome&&gX P d) [x] | _=>none
 |.bytesStr=>match op with
  |.convert s d x=>match iK P s with
   |some e=>when (mz P e&&gX P d) [x]
   |none=>none
  |_=>none
 |.mkIface t=>match op with
  |.makeInterface t' x=>match P.underlying t' with
   |some d=>when (Nat.beq t t'&&(match d with | .interface _=>false | _=>true)) [x]
   |none=>none
  |_=>none
 |.mkFunc f n=>match op with
  |.makeFunc (.func f') first cap=>when (Nat.beq f f'&&Nat.beq n first.size) (first.toList++cap.toList)
  |_=>none
 |.fieldAddr off=>match op with
  |.fieldAddr t x i=>match km P t with
   |some fields=>match fields[i]? with
    |some fd=>when (Nat.beq off fd.offset&&r5 P fd.type && !Nat.beq (kQ P fd.type) 0) [x]
    |none=>none
   |none=>none
  |_=>none
 |.field agg off n=>match op with
  |.field t x i=>match km P t with
   |some fields=>match fields[i]? with
    |some fd=>when (Nat.beq off fd.offset&&jL P fd.type n agg) [x]
    |none=>none
   |none=>none
  |_=>none
 |.indexA len sz=>match op with
  |.indexAddr t x i=>match te P t with
   |some (l,e)=>when (Nat.beq len l&&Nat.beq sz (kQ P e)&&r5 P e) [x,i]
   |none=>none
  |_=>none
 |.indexS sz=>match op with
  |.indexAddr t x i=>match iK P t with
   |some e=>when (Nat.beq sz (kQ P e)&&r5 P e) [x,i]
   |none=>none
  |_=>none
 |.idxArr len agg n=>match op with
  |.index t x i=>match te P t with
   |some (l,e)=>when (Nat.beq len l&&jL P e n agg) [x,i]
   |none=>none
  |_=>none
 |.idxStr=>match op with | .index t x i=>when (gX P t) [x,i] | _=>none
 |.sliceS sz lo hi=>match op with
  |.slice t x l h none=>match iK P t with
   |some e=>when (Nat.beq sz (kQ P e)&&r5 P e&&uv l lo&&uv h hi) (x::gV l h)
   |none=>none
  |_=>none
 |.sliceStr lo hi=>match op with
  |.slice t x l h none=>when (gX P t&&uv l lo&&uv h hi) (x::gV l h)
  |_=>none
 |.sliceA len sz lo hi=>match op with
  |.slice t x l h none=>match te P t with
   |some (n,e)=>when (Nat.beq len n&&Nat.beq sz (kQ P e)&&r5 P e&&uv l lo&&uv h hi) (x::gV l h)
   |none=>none
  |_=>none
 |.extract i=>match op with | .extract x j=>when (Nat.beq i j) [x] | _=>none
 |.lenStr=>match kY op with
  |some (.len,[x],[t])=>when (gX P t) [x]
  |_=>none
 |.lenSlice=>match kY op with
  |some (.len,[x],[t])=>when ((iK P t).isSome) [x]
  |_=>none
 |.lenArr n=>match kY op with
  |some (.len,[x],[t])=>match te P t with
   |some (m,_)=>when (Nat.beq n m) [x]
   |none=>match JD P t with
    |some a=>match te P a with
     |some (m,_)=>when (Nat.beq n m) [x]
     |none=>none
    |none=>none
  |_=>none
 |.min=>match kY op with | some (.min,xs,_)=>some xs | _=>none
 |.max=>match kY op with | some (.max,xs,_)=>some xs | _=>none
theorem zl {P:Program}{op:Op}{po:POp}{xs:List Operand}(h:ckP P op po=some xs):PR P op po xs:=by
 unfold ckP at h
 split at h
 ·split at h<;>first | (cases h;exact .pick _ _ _) | cases h
 ·split at h
  ·rename_i zero parts _ t ps
   split at h
   ·rename_i fields e1
    split at h
    ·rename_i l e2
     obtain⟨g,e⟩:=dg h;clear h;subst e;have h:=g
     simp only[Bool.and_eq_true] at h
     obtain⟨⟨⟨h1,h2⟩,h3⟩,h4⟩:=h
     obtain⟨b,ht,-⟩:=p6 (kF e1) h4
     obtain⟨k1,k2⟩:=mW e2
     refine .build t ps zero parts _ b fields (fun j=>((fields[j]?).map fun f=>kQ P f.type).getD 0) ht (eJ h2) (fun j f hf=>?_) ((gG h1).trans k1) k2
     obtain⟨d,b',q⟩:=fX (mx h3 j f (by simpa using hf))
     exact⟨d,b',_,by rw[hf];exact q⟩
    ·cases h
   ·split at h
    ·rename_i len e e2
     obtain⟨g,e⟩:=dg h;clear h;subst e;have h:=g
     simp only[Bool.and_eq_true] at h
     obtain⟨⟨⟨h1,h2⟩,h3⟩,h4⟩:=h
     obtain⟨b,ht,-⟩:=p6 (lx e2) h4
     obtain⟨d,b',q⟩:=fX h3
     exact .buildA t ps zero parts _ b len e (kQ P e) d b' _ ht (eJ h2) q (gG h1)
    ·cases h
  ·cases h
 ·split at h<;>first | (cases h;exact .nilCheck _) | cases h
 ·split at h
  ·obtain⟨g,e⟩:=dg h;clear h;subst e;have h:=g
   simp only[decide_eq_true_eq] at h
   subst h
   exact .bin _ _ _ _ _
  ·cases h
 ·split at h
  ·rename_i neg d _ o t x y u
   split at h
   ·rename_i d' e1
    obtain⟨g,e⟩:=dg h;clear h;subst e;have h:=g
    simp only[Bool.and_eq_true] at h
    obtain⟨⟨h1,h2⟩,h3⟩:=h
    obtain⟨b,ht,-⟩:=p6 e1 h2
    cases neg with
    |true=>simp only[if_true,decide_eq_true_eq] at h1;subst h1;exact .neq _ _ _ _ _ _ _ _ _ ht (hH h3)
    |false=>simp only[Bool.false_eq_true,if_false,decide_eq_true_eq] at h1;subst h1;exact .eql _ _ _ _ _ _ _ _ _ ht (hH h3)
   ·cases h
  ·cases h
 ·split at h
  ·rename_i neg plan _ o t x y u
   split at h
   ·rename_i fields e1
    obtain⟨g,e⟩:=dg h;clear h;subst e;have h:=g
    simp only[Bool.and_eq_true,Bool.not_eq_true'] at h
    obtain⟨⟨⟨h1,h2⟩,h3⟩,h4⟩:=h
    refine .eqAgg neg o t x y u fields plan ?_ (kF e1) h2 h3 (mG h4)
    cases neg<;>simpa using h1
   ·split at h
    ·rename_i len e j ed r e2
     split at h
     ·rename_i d e3
      obtain⟨g,e'⟩:=dg h;clear h;subst e';have h:=g
      simp only[Bool.and_eq_true,Bool.not_eq_true'] at h
      obtain⟨⟨⟨⟨h1,h2⟩,h3⟩,h4⟩,h5⟩:=h
      obtain⟨b,q,-⟩:=p6 e3 h4
      refine .eqArr neg o t x y u len e d b ed _ ?_ (lx e2) q (hH h3) h2 (by rw[List.range_eq_range'];exact ob h5)
      cases neg<;>simpa using h1
     ·cases h
    ·cases h
  ·cases h
 ·split at h
  ·obtain⟨g,e⟩:=dg h;clear h;subst e;have h:=g
   simp only[decide_eq_true_eq] at h
   subst h
   exact .un _ _ _
  ·cases h
 ·split at h
  ·obtain⟨g,e⟩:=dg h;clear h;subst e;have h:=g
   simp only[Bool.and_eq_true,decide_eq_true_eq,Option.isSome_iff_exists] at h
   obtain⟨⟨k,h1⟩,h2⟩:=h
   exact .convInt _ _ _ _ ⟨k,rb h1⟩ (rb h2)
  ·cases h
 ·split at h
  ·obtain⟨g,e⟩:=dg h;clear h;subst e;have h:=g
   simp only[Bool.and_eq_true] at h
   exact .convStr _ _ _ (fM h.1) (fM h.2)
  ·cases h
 ·split at h
  ·obtain⟨g,e⟩:=dg h;clear h;subst e;have h:=g
   simp only[Bool.and_eq_true,Option.isSome_iff_exists] at h
   obtain⟨⟨k,h1⟩,h2⟩:=h
   exact .intStr _ _ _ ⟨k,rb h1⟩ (fM h2)
  ·cases h
 ·split at h
  ·split at h
   ·rename_i e e1
    obtain⟨g,e⟩:=dg h;clear h;subst e;have h:=g
    simp only[Bool.and_eq_true] at h
    exact .bytesStr _ _ _ e (fQ e1) (nI h.1) (fM h.2)
   ·cases h
  ·cases h
 ·split at h
  ·split at h
   ·rename_i d e1
    obtain⟨g,e⟩:=dg h;clear h;subst e;have h:=g
    simp only[Bool.and_eq_true] at h
    rw[eM h.1]
    refine .mkIface _ _ d e1 (fun ms e=>?_)
    subst e
    cases h.2
   ·cases h
  ·cases h
 ·split at h
  ·obtain⟨g,e⟩:=dg h;clear h;subst e;have h:=g
   simp only[Bool.and_eq_true] at h
   rw[eM h.1,eM h.2]
   exact .mkFunc _ _ _
  ·cases h
 ·split at h
  ·split at h
   ·rename_i fields e1
    split at h
    ·rename_i fd e2
     obtain⟨g,e⟩:=dg h;clear h;subst e;have h:=g
     simp only[Bool.and_eq_true,Bool.not_eq_true'] at h
     obtain⟨⟨h1,h2⟩,h3⟩:=h
     obtain⟨d,b,q⟩:=fX h2
     rw[eM h1]
     exact .fieldAddr _ _ _ fields fd d _ b _ (kF e1) e2 q (fun e=>by rw[e] at h3;cases h3)
    ·cases h
   ·cases h
  ·cases h
 ·split at h
  ·split at h
   ·rename_i fields e1
    split at h
    ·rename_i fd e2
     obtain⟨g,e⟩:=dg h;clear h;subst e;have h:=g
     simp only[Bool.and_eq_true] at h
     obtain⟨h1,h2⟩:=h
     obtain⟨d,b,q,-⟩:=dD h2
     rw[eM h1]
     exact .field _ _ _ fields fd d _ b _ (kF e1) e2 q
    ·cases h
   ·cases h
  ·cases h
 ·split at h
  ·split at h
   ·rename_i l e e1
    obtain⟨g,e⟩:=dg h;clear h;subst e;have h:=g
    simp only[Bool.and_eq_true] at h
    obtain⟨⟨h1,h2⟩,h3⟩:=h
    obtain⟨d,b,q⟩:=fX h3
    rw[eM h1,eM h2]
    exact .indexA _ _ _ l e d _ b _ (lx e1) q
   ·cases h
  ·cases h
 ·split at h
  ·split at h
   ·rename_i e e1
    obtain⟨g,e⟩:=dg h;clear h;subst e;have h:=g
    simp only[Bool.and_eq_true] at h
    obtain⟨h1,h2⟩:=h
    obtain⟨d,b,q⟩:=fX h2
    rw[eM h1]
    exact .indexS _ _ _ e d _ b _ (fQ e1) q
   ·cases h
  ·cases h
 ·split at h
  ·split at h
   ·rename_i l e e1
    obtain⟨g,e⟩:=dg h;clear h;subst e;have h:=g
    simp only[Bool.and_eq_true] at h
    obtain⟨h1,h2⟩:=h
    obtain⟨d,b,q,-⟩:=dD h2
    rw[eM h1]
    exact .idxArr _ _ _ l e d _ b _ (lx e1) q
   ·cases h
  ·cases h
 ·split at h
  ·obtain⟨g,e⟩:=dg h;clear h;subst e;have h:=g
   exact .idxStr _ _ _ (fM h)
  ·cases h
 ·split at h
  ·split at h
   ·rename_i e e1
    obtain⟨g,e⟩:=dg h;clear h;subst e;have h:=g
    simp only[Bool.and_eq_true,uv,beq_iff_eq] at h
    obtain⟨⟨⟨h1,h2⟩,h3⟩,h4⟩:=h
    obtain⟨d,b,q⟩:=fX h2
    rw[eM h1,←h3,←h4]
    exact .sliceS _ _ _ _ e d _ b _ (fQ e1) q
   ·cases h
  ·cases h
 ·split at h
  ·obtain⟨g,e⟩:=dg h;clear h;subst e;have h:=g
   simp only[Bool.and_eq_true,uv,beq_iff_eq] at h
   obtain⟨⟨h1,h3⟩,h4⟩:=h
   rw[←h3,←h4]
   exact .sliceStr _ _ _ _ (fM h1)
  ·cases h
 ·split at h
  ·split at h
   ·rename_i n e e1
    obtain⟨g,e⟩:=dg h;clear h;subst e;have h:=g
    simp only[Bool.and_eq_true,uv,beq_iff_eq] at h
    obtain⟨⟨⟨⟨h0,h1⟩,h2⟩,h3⟩,h4⟩:=h
    obtain⟨d,b,q⟩:=fX h2
    rw[eM h0,eM h1,←h3,←h4]
    exact .sliceA _ _ _ _ n e d _ b _ (lx e1) q
   ·cases h
  ·cases h
 ·split at h
  ·obtain⟨g,e⟩:=dg h;clear h;subst e;have h:=g
   rw[eM h]
   exact .extract _ _
  ·cases h
 ·split at h
  ·rename_i x t e1
   obtain⟨g,e⟩:=dg h;clear h;subst e;have h:=g
   rw[iM e1]
   exact .lenStr _ _ (fM h)
  ·cases h
 ·split at h
  ·rename_i x t e1
   obtain⟨g,e⟩:=dg h;clear h;subst e;have h:=g
   obtain⟨e,he⟩:=Option.isSome_iff_exists.1 h
   rw[iM e1]
   exact .lenSlice _ _ e (fQ he)
  ·cases h
 ·split at h
  ·rename_i x t e1
   rw[iM e1]
   split at h
   ·rename_i m e e2
    obtain⟨g,e⟩:=dg h;clear h;subst e;have h:=g
    rw[eM h]
    exact .lenArr _ _ _ e (lx e2)
   ·split at h
    ·rename_i a e2
     split at h
     ·rename_i m e e3
      obtain⟨g,e⟩:=dg h;clear h;subst e;have h:=g
      rw[eM h]
      exact .lenPtr _ _ a _ e (HQ e2) (lx e3)
     ·cases h
    ·cases h
  ·cases h
 ·split at h
  ·rename_i ys ts e1
   cases h
   rw[iM e1]
   exact .min ⟨xs⟩ ⟨ts⟩
  ·cases h
 ·split at h
  ·rename_i ys ts e1
   cases h
   rw[iM e1]
   exact .max ⟨xs⟩ ⟨ts⟩
  ·cases h
end Go.Idl
namespace Go.Idl
def yG:Op→Option (Operand×List Operand)
 |.call ⟨.value g,xs,_⟩=>some (g,xs.toList)
 |_=>none
theorem yD {op:Op}{g:Operand}{xs:List Operand}(h:yG op=some (g,xs)):∃ts,op=.call ⟨.value g,⟨xs⟩,ts⟩:=by
 unfold yG at h
 split at h
 ·rename_i g' xs' ts
  obtain⟨xs'⟩:=xs'
  cases h
  exact⟨ts,rfl⟩
 ·cases h
variable (P:Program) (rows:Nat→Option (List IV))
def ckK (op:Op):IK→Bool
 |.mv x' _ _=>match op with
  |.move x=>dW rows x x'
  |.assign x=>dW rows x x'
  |_=>false
 |.p po as=>match ckP P op po with
  |some xs=>jv rows xs as
  |none=>false
 |.same x'=>match op with
  |.convert s t x=>Nat.beq s t&&(match iK P t with | some e=>mz P e | none=>false)&&dW rows x x'
  |_=>false
 |.load agg n a' _=>match op with
  |.load t a=>jL P t n agg&&dW rows a a'
  |_=>false
 |.store n a' x' _=>match op with
  |.store t a x=>jL P t n (ov P t)&&dW rows a a'&&dW rows x x'
  |_=>false
 |.allocL _ zero _=>match op with | .alloc t=>iQ P t zero | _=>false
 |.allocG zero _=>match op with | .alloc t=>iQ P t zero | _=>false
 |.boxL _ _ x'=>match op with | .box _ x=>dW rows x x' | _=>false
 |.boxG _ x'=>match op with | .box _ x=>dW rows x x' | _=>false
 |.buildSlice n len zero parts as=>match op with
  |.buildSlice t len' ps=>match iK P t with
   |some e=>Nat.beq len len'&&jL P e n (ov P e)&&iQ P e zero&&iL parts (ps.toList.map fun p=>(p.1*n,n))&&Nat.ble (len*n) 16777216&&jv rows (ps.toList.map (·.2)) as
   |none=>false
  |_=>false
 |.strBytes x'=>match op with
  |.convert s d x=>match iK P d with
   |some e=>gX P s&&mz P e&&dW rows x x'
   |none=>false
  |_=>false
 |.makeI n bytes zero l' c'=>match op with
  |.makeSlice t l c=>match iK P t with
   |some e=>jL P e n (ov P e)&&Nat.beq bytes (bytesOf P e)&&iQ P e zero&&dW rows l l'&&dW rows c c'
   |none=>false
  |_=>false
 |.makeB n bytes zero l' c'=>match op with
  |.makeSlice t l c=>match iK P t with
   |some e=>jL P e n (ov P e)&&Nat.beq bytes (bytesOf P e)&&iQ P e zero&&dW rows l l'&&dW rows c c'
   |none=>false
  |_=>false
 |.append n bytes s' x'=>match kY op with
  |some (.append,[s,x],[t,u])=>match iK P t with
   |some e=>jL P e n (ov P e)&&Nat.beq bytes (bytesOf P e) && !Nat.beq bytes 0 && !Nat.beq n 0&&iQ P e (zeroIV e)&&(gX P u||(iK P u).isSome)&&dW rows s s'&&dW rows x x'
   |none=>false
  |_=>false
 |.copy n d' s'=>match kY op with
  |some (.copy,[d,s],[t,_])=>match iK P t with
   |some e=>jL P e n (ov P e)&&dW rows d d'&&dW rows s s'
   |none=>false
  |_=>false
 |.callF f as _=>match yG op with
  |some (.func g,xs)=>Nat.beq f g&&jv rows xs as
  |_=>false
 |.callV g' as _=>match yG op with
  |some (g,xs)=>dW rows g g'&&jv rows xs as
  |_=>false
 |.mkMap=>match op with | .makeMap _ none=>true | _=>false
 |.lookup ed zero ok m' x'=>match op with
  |.lookup t m x ok'=>match Cj P t with
   |some (k,e)=>match P.underlying k,P.info? e with
    |some d,some i=>match i.zero with
     |some z=>(ok==ok')&&Bq ed d&&ckV 20000 zero z&&dW rows m m'&&dW rows x x'
     |none=>false
    |_,_=>false
   |none=>false
  |_=>false
 |.mapUpd ed m' x' v'=>match op with
  |.mapUpdate t m x v=>match Cj P t with
   |some (k,_)=>match P.underlying k with
    |some d=>Bq ed d&&dW rows m m'&&dW rows x x'&&dW rows v v'
    |none=>false
   |none=>false
  |_=>false
 |.mapLen m'=>match kY op with
  |some (.len,[m],[t])=>(Cj P t).isSome&&dW rows m m'
  |_=>false
 |.rangeStr _ x'=>match op with
  |.range t x=>gX P t&&dW rows x x'
  |_=>false
 |.nextStr a'=>match op with
  |.next a true=>dW rows a a'
  |_=>false
where
 zeroIV (e:TypeId):List IV:=match P.info? e with
  |some i=>match i.zero with
   |some v=>v.cells.toList.map ofV
   |none=>[]
  |none=>[]
 ofV:Value→IV
  |.bool b=>.bool b
  |.int k n=>.int k n
  |.float k n=>.float k n
  |.complex k a b=>.cplx k a b
  |.string t=>.str t.data.toList
  |.pointer _=>.nilPtr
  |.slice _ _ _=>.nilSlice
  |.map _=>.nilMap
  |.nilIface=>.nilIface
  |.nilFunc=>.nilFunc
  |_=>.undef
variable {P rows}
theorem zK {op:Op}{k:IK}(h:ckK P rows op k=true):KR P rows op k:=by
 unfold ckK at h
 split at h
 ·split at h
  ·exact .move _ _ _ _ (aF h)
  ·exact .assign _ _ _ _ (aF h)
  ·cases h
 ·split at h
  ·rename_i e;exact .p _ _ _ _ (zl e) (gh h)
  ·cases h
 ·split at h
  ·simp only[Bool.and_eq_true] at h
   obtain⟨⟨h1,h2⟩,h3⟩:=h
   rw[eM h1]
   split at h2
   ·rename_i e he;exact .same _ e _ _ (fQ he) (nI h2) (aF h3)
   ·cases h2
  ·cases h
 ·split at h
  ·simp only[Bool.and_eq_true] at h
   obtain⟨d,b,q,-⟩:=dD h.1
   exact .load _ d _ b _ _ _ _ q (aF h.2)
  ·cases h
 ·split at h
  ·simp only[Bool.and_eq_true] at h
   obtain⟨d,b,q,-⟩:=dD h.1.1
   exact .store _ d _ b _ _ _ _ _ _ q (aF h.1.2) (aF h.2)
  ·cases h
 ·split at h<;>first | exact .allocL _ _ _ _ (eJ h) | cases h
 ·split at h<;>first | exact .allocG _ _ _ (eJ h) | cases h
 ·split at h<;>first | exact .boxL _ _ _ _ _ (aF h) | cases h
 ·split at h<;>first | exact .boxG _ _ _ _ (aF h) | cases h
 ·split at h
  ·split at h
   ·rename_i e he
    simp only[Bool.and_eq_true] at h
    obtain⟨⟨⟨⟨⟨h1,h2⟩,h3⟩,h4⟩,h5⟩,h6⟩:=h
    obtain⟨d,b,q,-⟩:=dD h2
    have hl:=Nat.le_of_ble_eq_true h5
    rw[eM h1] at hl ⊢
    exact .buildSlice _ e _ _ _ _ _ d _ b _ (fQ he) q (eJ h3) (gG h4) (by simpa using hl) (gh h6)
   ·cases h
  ·cases h
 ·split at h
  ·split at h
   ·rename_i e he
    simp only[Bool.and_eq_true] at h
    exact .strBytes _ _ e _ _ (fM h.1.1) (fQ he) (nI h.1.2) (aF h.2)
   ·cases h
  ·cases h
 ·split at h
  ·split at h
   ·rename_i e he
    simp only[Bool.and_eq_true] at h
    obtain⟨⟨⟨⟨h1,h2⟩,h3⟩,h4⟩,h5⟩:=h
    obtain⟨d,b,q,i,hi,hb⟩:=dD h1
    have hb2:bytesOf P e=b:=by simp[bytesOf,hi,hb]
    rw[eM h2,hb2]
    exact .makeI _ e _ _ _ _ _ d _ b _ (fQ he) q (eJ h3) (aF h4) (aF h5)
   ·cases h
  ·cases h
 ·split at h
  ·split at h
   ·rename_i e he
    simp only[Bool.and_eq_true] at h
    obtain⟨⟨⟨⟨h1,h2⟩,h3⟩,h4⟩,h5⟩:=h
    obtain⟨d,b,q,i,hi,hb⟩:=dD h1
    have hb2:bytesOf P e=b:=by simp[bytesOf,hi,hb]
    rw[eM h2,hb2]
    exact .makeB _ e _ _ _ _ _ d _ b _ (fQ he) q (eJ h3) (aF h4) (aF h5)
   ·cases h
  ·cases h
 ·split at h
  ·rename_i s x t u e1
   rw[iM e1]
   split at h
   ·rename_i e he
    simp only[Bool.and_eq_true,Bool.not_eq_true',Bool.or_eq_true] at h
    obtain⟨⟨⟨⟨⟨⟨⟨h1,h2⟩,h3⟩,h4⟩,h5⟩,h6⟩,h7⟩,h8⟩:=h
    obtain⟨d,b,q,i,hi,hb⟩:=dD h1
    have hb2:bytesOf P e=b:=by simp[bytesOf,hi,hb]
    have hbb:=eM h2
    rw[hb2] at hbb
    subst hbb
    refine .append _ _ e _ _ _ _ _ d _ _ _ (fQ he) ?_ q (fun q=>by rw[q] at h3;cases h3) (fun q=>by rw[q] at h4;cases h4) (eJ h5) (aF h7) (aF h8)
    rcases h6 with h6 | h6
    ·exact .inl (fM h6)
    ·obtain⟨e',he'⟩:=Option.isSome_iff_exists.1 h6
     exact .inr ⟨e',fQ he'⟩
   ·cases h
  ·cases h
 ·split at h
  ·rename_i d s t u e1
   rw[iM e1]
   split at h
   ·rename_i e he
    simp only[Bool.and_eq_true] at h
    obtain⟨td,b,q,-⟩:=dD h.1.1
    exact .copy _ _ e _ _ _ _ td _ b _ (fQ he) q (aF h.1.2) (aF h.2)
   ·cases h
  ·cases h
 ·split at h
  ·rename_i g xs e1
   obtain⟨ts,rfl⟩:=yD e1
   simp only[Bool.and_eq_true] at h
   rw[eM h.1]
   exact .callF _ _ _ _ _ (gh h.2)
  ·cases h
 ·split at h
  ·rename_i g xs e1
   obtain⟨ts,rfl⟩:=yD e1
   simp only[Bool.and_eq_true] at h
   exact .callV _ _ _ _ _ _ (aF h.1) (gh h.2)
  ·cases h
 ·split at h<;>first | exact .mkMap _ | cases h
 ·split at h
  ·split at h
   ·rename_i k e he
    split at h
    ·rename_i d i e1 e2
     split at h
     ·rename_i z ez
      simp only[Bool.and_eq_true,beq_iff_eq] at h
      obtain⟨⟨⟨⟨h1,h2⟩,h3⟩,h4⟩,h5⟩:=h
      subst h1
      exact .lookup _ k e _ _ _ _ _ _ d _ (xA he) e1 (oc h2) ⟨i,z,e2,ez,kI _ _ _ h3⟩ (aF h4) (aF h5)
     ·cases h
    ·cases h
   ·cases h
  ·cases h
 ·split at h
  ·split at h
   ·rename_i k e he
    split at h
    ·rename_i d e1
     simp only[Bool.and_eq_true] at h
     obtain⟨⟨⟨h2,h3⟩,h4⟩,h5⟩:=h
     exact .mapUpd _ k e _ _ _ _ _ _ d _ (xA he) e1 (oc h2) (aF h3) (aF h4) (aF h5)
    ·cases h
   ·cases h
  ·cases h
 ·split at h
  ·rename_i m t e1
   rw[iM e1]
   simp only[Bool.and_eq_true] at h
   obtain⟨⟨k,e⟩,he⟩:=Option.isSome_iff_exists.1 h.1
   exact .mapLen _ k e _ _ (xA he) (aF h.2)
  ·cases h
 ·split at h
  ·simp only[Bool.and_eq_true] at h
   exact .rangeStr _ _ _ _ (fM h.1) (aF h.2)
  ·cases h
 ·split at h
  ·exact .nextStr _ _ (aF h)
  ·cases h
def uw:Option Nat→Option Nat→Bool
 |none,none=>true
 |some i,some j=>Nat.beq i j
 |_,_=>false
theorem vj {a b:Option Nat}(h:uw a b=true):a=b:=by
 unfold uw at h
 split at h
 ·rfl
 ·rw[eM h]
 ·cases h
variable (P rows)
def yS (ops:Array Oper):Option (Nat×Bool)→Option (Nat×Bool)→Bool
 |none,none=>true
 |some (j,want),some (s,want')=>(want==want')&&uw ((ops[j]?).bind (·.dst)) (some s)
 |_,_=>false
def Hz (N:Nat) (ops:Array Oper) (o:Oper) (i:IOp):Bool :=
 uw o.dst i.dst&&(match i.dst with | some d=>Nat.blt d N | none=>true)&&yS ops o.guard i.guard&&ckK P rows o.op i.k
def qX (N:Nat) (ops:Array Oper):List Oper→List IOp→Bool
 |[],[]=>true
 |o::os,i::is=>Hz P rows N ops o i&&qX N ops os is
 |_,_=>false
def yk (N:Nat):List Nat→Bool
 |[]=>true
 |p::r=>Nat.blt p N&&yk N r
def nV:List Nat→List Nat→Bool
 |[],[]=>true
 |a::r,b::s=>Nat.beq a b&&nV r s
 |_,_=>false
variable (rnd:FuncId→Nat→Option IRnd)
def dC (N:Nat):Code→ICode→Bool
 |.skip,x=>match x with | .skip=>true | _=>false
 |.label _,x=>match x with | .skip=>true | _=>false
 |.region _ ops false,x=>match x with | .ops is=>qX P rows N ops ops.toList is | _=>false
 |.region _ ops true,x=>match x with | .draw is pre=>qX P rows N ops ops.toList is&&rA ops is pre | _=>false
 |.seq a b,x=>match x with | .seq y z=>dC N a y&&dC N b z | _=>false
 |.cond c a b,x=>match x with | .cond c' y z=>dW rows c c'&&dC N a y&&dC N b z | _=>false
 |.block id a,x=>match x with | .block id' y=>Nat.beq id id'&&dC N a y | _=>false
 |.loop a,x=>match x with | .loop _ y=>dC N a y | _=>false
 |.exit id,x=>match x with | .exit id'=>Nat.beq id id' | _=>false
 |.ret,x=>match x with | .ret=>true | _=>false
 |.scope a,x=>dC N a x
 |.rangeFunc g ps as body,x=>match x with
  |.rangeF g' fn site=>match rnd fn site with
   |some r=>dW rows g g'&&nV ps.toList r.ps&&yk N r.ps&&dC N as r.assign&&dC N body r.body
   |none=>false
  |_=>false
 |_,_=>false
variable {P rows rnd}
theorem xN {N:Nat}{ops:Array Oper}{o:Oper}{i:IOp}(h:Hz P rows N ops o i=true):OpR P rows N ops o i:=by
 simp only[Hz,Bool.and_eq_true] at h
 obtain⟨⟨⟨h1,h2⟩,h3⟩,h4⟩:=h
 refine⟨vj h1,fun d hd=>?_,zK h4,?_⟩
 ·rw[hd] at h2;simpa[Nat.blt_eq] using h2
 ·unfold yS at h3
  split at h3
  ·rename_i e1 e2;rw[e1,e2];trivial
  ·rename_i j w s w' e1 e2
   rw[e1,e2]
   simp only[Bool.and_eq_true,beq_iff_eq] at h3
   exact⟨h3.1,vj h3.2⟩
  ·cases h3
theorem jY {N:Nat}{ops:Array Oper}:∀{os:List Oper}{is:List IOp},qX P rows N ops os is=true→OpsR P rows N ops os is
 |[],[],_=>.nil
 |o::os,i::is,h=>by
  simp only[qX,Bool.and_eq_true] at h
  exact .cons (xN h.1) (jY h.2)
 |[],_::_,h=>by simp[qX] at h
 |_::_,[],h=>by simp[qX] at h
theorem yY {N:Nat}:∀{l:List Nat},yk N l=true→∀p∈l,p<N
 |[],_,p,h=>by cases h
 |q::l,h,p,hp=>by
  simp only[yk,Bool.and_eq_true,Nat.blt_eq] at h
  rcases List.mem_cons.1 hp with rfl | hp
  ·exact h.1
  ·exact yY h.2 p hp
theorem wk:∀{a b:List Nat},nV a b=true→a=b
 |[],[],_=>rfl
 |a::r,b::s,h=>by
  simp only[nV,Bool.and_eq_true] at h
  rw[eM h.1,wk h.2]
 |[],_::_,h=>by simp[nV] at h
 |_::_,[],h=>by simp[nV] at h
theorem dh {T:Tab}{N:Nat}:∀(c:Code) (x:ICode),dC P rows T.rnd N c x=true→CR P rows N T (fun ops is pre=>rA ops is pre=true) c x
 |.skip,x,h=>by simp only[dC] at h;split at h<;>first | exact .skip | cases h
 |.label l,x,h=>by simp only[dC] at h;split at h<;>first | exact .label _ | cases h
 |.region id ops false,x,h=>by simp only[dC] at h;split at h<;>first | exact .ops _ _ _ (jY h) | cases h
 |.region id ops true,x,h=>by
  simp only[dC] at h
  split at h
  ·simp only[Bool.and_eq_true] at h;exact .draw _ _ _ _ (jY h.1) h.2
  ·cases h
 |.seq a b,x,h=>by
  simp only[dC] at h
  split at h
  ·simp only[Bool.and_eq_true] at h;exact .seq (dh a _ h.1) (dh b _ h.2)
  ·cases h
 |.cond c a b,x,h=>by
  simp only[dC] at h
  split at h
  ·simp only[Bool.and_eq_true] at h;exact .cond (aF h.1.1) (dh a _ h.1.2) (dh b _ h.2)
  ·cases h
 |.block id a,x,h=>by
  simp only[dC] at h
  split at h
  ·simp only[Bool.and_eq_true] at h;rw[eM h.1];exact .block (dh a _ h.2)
  ·cases h
 |.loop a,x,h=>by
  simp only[dC] at h
  split at h
  ·exact .loop (dh a _ h)
  ·cases h
 |.exit id,x,h=>by
  simp only[dC] at h
  split at h
  ·rw[eM h];exact .exit _
  ·cases h
 |.ret,x,h=>by simp only[dC] at h;split at h<;>first | exact .ret | cases h
 |.scope a,x,h=>.scope (dh a x (by simpa only[dC] using h))
 |.rangeFunc g ps as body,x,h=>by
  simp only[dC] at h
  split at h
  ·split at h
   ·rename_i r hr
    simp only[Bool.and_eq_true] at h
    obtain⟨⟨⟨⟨h1,h2⟩,h3⟩,h4⟩,h5⟩:=h
    exact .rangeF (aF h1) hr (wk h2) (yY h3) (dh as _ h4) (dh body _ h5)
   ·cases h
  ·cases h
 |.goto _,x,h=>by simp[dC] at h
 |.refuse _,x,h=>by simp[dC] at h
variable (P)
def FR:ResultVar→RV→Bool
 |.tmp i,.t j=>Nat.beq i j
 |.cell i t,.cell j agg n=>Nat.beq i j&&jL P t n agg
 |_,_=>false
def nP:List ResultVar→List RV→Bool
 |[],[]=>true
 |x::xs,y::ys=>FR P x y&&nP xs ys
 |_,_=>false
variable (rows rnd)
def I9 (f:FuncId) (ifn:IFn):Bool :=
 match P.funcs[f]? with
 |some fn=>match fn.body with
  |some c=>!(fn.name == "runtime.NumGoroutine")&&Nat.ble ifn.nargs fn.ntmps&&nP P fn.results.toList ifn.rets&&dC P rows rnd fn.ntmps c ifn.body
  |none=>false
 |none=>false
variable {P rows rnd}
theorem mq:∀{xs:List ResultVar}{ys:List RV},nP P xs ys=true→RetsR P xs ys
 |[],[],_=>.nil
 |x::xs,y::ys,h=>by
  simp only[nP,Bool.and_eq_true] at h
  refine .cons ?_ (mq h.2)
  have h:=h.1
  unfold FR at h
  split at h
  ·rw[eM h];exact .tmp _
  ·simp only[Bool.and_eq_true] at h
   obtain⟨d,b,q,-⟩:=dD h.2
   rw[eM h.1]
   exact .cell _ _ d _ b _ q
  ·cases h
 |[],_::_,h=>by simp[nP] at h
 |_::_,[],h=>by simp[nP] at h
theorem xg {T:Tab}{f:FuncId}{ifn:IFn}(h:I9 P rows T.rnd f ifn=true):∃fn c,FnR ⟨P,rows,T,fun ops is pre=>rA ops is pre=true⟩ f ifn fn c:=by
 unfold I9 at h
 split at h
 ·rename_i fn e1
  split at h
  ·rename_i c e2
   simp only[Bool.and_eq_true,Bool.not_eq_true'] at h
   obtain⟨⟨⟨h1,h2⟩,h3⟩,h4⟩:=h
   exact⟨fn,c,e1,e2,h1,dh c _ h4,Nat.le_of_ble_eq_true h2,mq h3⟩
  ·cases h
 ·cases h
theorem FT.all_find {α:Type}{p:Nat→α→Bool}:∀{t:FT α},t.all p=true→∀{i v},t.find i=some v→p i v=true
 |.nil,_,i,v,h=>by simp[FT.find] at h
 |.node k v l r,ha,i,x,h=>by
  simp only[FT.all,Bool.and_eq_true] at ha
  simp only[FT.find] at h
  split at h
  ·rename_i e
   cases h
   rw[eM e];exact ha.1.1
  ·split at h
   ·exact FT.all_find ha.1.2 h
   ·exact FT.all_find ha.2 h
end Go.Idl
namespace Go.Idl
open Classical
def iA (c c':aN):Prop:=∀a b m r,c a b m=some r→c' a b m=some r
def nt (l l':gR):Prop:=∀h b st r,l h b st=some r→l' h b st=some r
theorem lF {c c':aN}(hc:iA c c') {st:St}{f:Callee}{as:List IV}{hs:List Arg}{r:IV×Cap×St}(h:bB c st f as hs=some r):bB c' st f as hs=some r:=by
 unfold bB at h ⊢
 split at h
 ·rename_i q hh e1 e2
  split at h
  ·cases h
  ·rename_i m em
   split at h
   ·cases h
   ·rename_i v m' ec
    rw[hc _ _ _ _ ec]
    exact h
 ·cases h
theorem DW {c c':aN}(hc:iA c c') {st:St}{k:IK}{r:IV×Cap×St}(h:k.run c st=some r):k.run c' st=some r:=by
 cases k with
 |callF f as hs =>
  simp only[IK.run] at h ⊢
  split at h
  ·exact lF hc h
  ·cases h
 |callV g as hs =>
  simp only[IK.run] at h ⊢
  split at h
  ·split at h
   ·exact lF hc h
   ·exact lF hc h
   ·cases h
  ·cases h
 |_=>exact h
theorem sj {c c':aN}(hc:iA c c') {st:St}{o:IOp}{r:St}(h:o.run0 c st=some r):o.run0 c' st=some r:=by
 unfold IOp.run0 at h ⊢
 split at h
 ·split at h
  ·rename_i e;rw[DW hc e];exact h
  ·cases h
 ·exact h
 ·cases h
theorem xZ {c c':aN}(hc:iA c c') {st:St}{o:IOp}{r:St}(h:o.run c st=some r):o.run c' st=some r:=by
 unfold IOp.run at h ⊢
 split at h
 ·split at h
  ·exact sj hc h
  ·cases h
 ·exact sj hc h
theorem mY {c c':aN}(hc:iA c c'):∀{l:List IOp}{st r:St},aA c l st=some r→aA c' l st=some r
 |[],_,_,h=>h
 |o::l,st,r,h=>by
  simp only[aA] at h ⊢
  split at h
  ·rename_i e;rw[xZ hc e];exact mY hc h
  ·cases h
theorem cg {c c':aN}(hc:iA c c') {l l':gR}(hl:nt l l'):∀{x:ICode}{st:St}{r:Ex×St},x.run c l st=some r→x.run c' l' st=some r
 |.skip,_,_,h=>h
 |.ops is,st,r,h=>by
  simp only[ICode.run] at h ⊢
  split at h
  ·rename_i e;rw[mY hc e];exact h
  ·cases h
 |.draw is _,st,r,h=>by
  simp only[ICode.run] at h ⊢
  split at h
  ·split at h
   ·rename_i e;rw[mY hc e];exact h
   ·cases h
  ·cases h
 |.seq a b,st,r,h=>by
  simp only[ICode.run] at h ⊢
  split at h
  ·rename_i e;rw[cg hc hl e];exact cg hc hl h
  ·rename_i hn;rw[cg hc hl h]
   split
   ·rename_i e;cases e;exact (hn _ h).elim
   ·rfl
 |.cond d a b,st,r,h=>by
  simp only[ICode.run] at h ⊢
  split at h
  ·exact cg hc hl h
  ·exact cg hc hl h
  ·cases h
 |.block id b,st,r,h=>by
  simp only[ICode.run] at h ⊢
  split at h
  ·rename_i e;rw[cg hc hl e];exact h
  ·rename_i hn;rw[cg hc hl h]
   split
   ·rename_i e;cases e;exact (hn _ _ h).elim
   ·rfl
 |.loop hd b,st,r,h=>hl _ _ _ _ (by simpa only[ICode.run] using h)
 |.rangeF g fn site,st,r,h=>by
  simp only[ICode.run] at h ⊢
  split at h
  ·split at h
   ·split at h
    ·rename_i e;rw[hc _ _ _ _ e];exact h
    ·cases h
   ·cases h
  ·cases h
 |.exit _,_,_,h=>h
 |.ret,_,_,h=>h
theorem pE {c c':aN}(hc:iA c c') {l l':gR}(hl:nt l l') {fn:IFn}{as:List IV}{m:IM}{r:IV×IM}(h:fn.call c l as m=some r):fn.call c' l' as m=some r:=by
 unfold IFn.call at h ⊢
 split at h
 ·cases h
 ·rename_i hn
  rw[if_neg hn]
  split at h
  ·rename_i e;rw[cg hc hl e];exact h
  ·cases h
theorem pK {c c':aN}(hc:iA c c') {l l':gR}(hl:nt l l') {rn:IRnd}{id:Nat}{tm:Env}{as:List IV}{m:IM}{r:IV×IM}(h:rn.call c l id tm as m=some r):rn.call c' l' id tm as m=some r:=by
 unfold IRnd.call at h ⊢
 split at h
 ·cases h
 ·rename_i hn
  rw[if_neg hn]
  split at h
  ·rename_i e
   rw[cg hc hl e]
   simp only
   split at h
   ·split at h
    ·split at h
     ·rename_i e2;rw[cg hc hl e2];exact h
     ·cases h
    ·cases h
   ·cases h
  ·cases h
variable (tab:Tab) (aa:pQ)
theorem vp:∀k,iA (sem tab aa k).call (sem tab aa (k+1)).call∧nt (sem tab aa k).loop (sem tab aa (k+1)).loop
 |0=>⟨fun _ _ _ _ h=>by simp[sem] at h,fun _ _ _ _ h=>by simp[sem] at h⟩
 |k+1=>by
  obtain⟨h1,h2⟩:=vp k
  refine⟨fun c as m r h=>?_,fun hd b st r h=>?_⟩
  ·rw[sem] at h ⊢
   simp only at h ⊢
   split at h
   ·split at h
    ·exact h
    ·split at h
     ·exact pE h1 h2 h
     ·cases h
   ·split at h
    ·split at h
     ·exact pK h1 h2 h
     ·cases h
    ·cases h
  ·rw[sem] at h ⊢
   simp only at h ⊢
   split at h
   ·cases h
   ·split at h
    ·rename_i e;rw[cg h1 h2 e];exact h2 _ _ _ _ h
    ·rename_i hn;rw[cg h1 h2 h]
     split
     ·rename_i e;cases e;exact (hn _ h).elim
     ·rfl
theorem fu {k k':Nat}(h:k≤k'):iA (sem tab aa k).call (sem tab aa k').call∧nt (sem tab aa k).loop (sem tab aa k').loop:=by
 induction h with
 |refl=>exact⟨fun _ _ _ _ h=>h,fun _ _ _ _ h=>h⟩
 |step _ ih =>
  obtain⟨h1,h2⟩:=vp tab aa _
  exact⟨fun _ _ _ _ h=>h1 _ _ _ _ (ih.1 _ _ _ _ h),fun _ _ _ _ h=>h2 _ _ _ _ (ih.2 _ _ _ _ h)⟩
noncomputable def dt:aN:=fun c as m=>if h:∃r,∃k,(sem tab aa k).call c as m=some r then some h.choose else none
noncomputable def eU:gR:=fun hd b st=>if h:∃r,∃k,(sem tab aa k).loop hd b st=some r then some h.choose else none
variable {tab aa}
theorem f6 {c:Callee}{as:List IV}{m:IM}{r:IV×IM}:dt tab aa c as m=some r↔∃k,(sem tab aa k).call c as m=some r:=by
 have uniq:∀{r r' k k'},(sem tab aa k).call c as m=some r→(sem tab aa k').call c as m=some r'→r=r':=by
  intro r r' k k' h h'
  have h1:=(fu tab aa (Nat.le_max_left k k')).1 _ _ _ _ h
  have h2:=(fu tab aa (Nat.le_max_right k k')).1 _ _ _ _ h'
  rw[h1] at h2
  exact Option.some.inj h2
 unfold dt
 constructor
 ·intro h
  split at h
  ·rename_i hx
   cases h
   exact hx.choose_spec
  ·cases h
 ·rintro ⟨k,h⟩
  have hx:∃r,∃k,(sem tab aa k).call c as m=some r:=⟨r,k,h⟩
  rw[dif_pos hx]
  obtain⟨k',h'⟩:=hx.choose_spec
  rw[uniq h' h]
theorem kn {hd:Head}{b:ICode}{st:St}{r:Ex×St}:eU tab aa hd b st=some r↔∃k,(sem tab aa k).loop hd b st=some r:=by
 have uniq:∀{r r' k k'},(sem tab aa k).loop hd b st=some r→(sem tab aa k').loop hd b st=some r'→r=r':=by
  intro r r' k k' h h'
  have h1:=(fu tab aa (Nat.le_max_left k k')).2 _ _ _ _ h
  have h2:=(fu tab aa (Nat.le_max_right k k')).2 _ _ _ _ h'
  rw[h1] at h2
  exact Option.some.inj h2
 unfold eU
 constructor
 ·intro h
  split at h
  ·rename_i hx
   cases h
   exact hx.choose_spec
  ·cases h
 ·rintro ⟨k,h⟩
  have hx:∃r,∃k,(sem tab aa k).loop hd b st=some r:=⟨r,k,h⟩
  rw[dif_pos hx]
  obtain⟨k',h'⟩:=hx.choose_spec
  rw[uniq h' h]
theorem mE (k:Nat):iA (sem tab aa k).call (dt tab aa):=fun _ _ _ _ h=>f6.2 ⟨k,h⟩
theorem ka (k:Nat):nt (sem tab aa k).loop (eU tab aa):=fun _ _ _ _ h=>kn.2 ⟨k,h⟩
theorem nv {st:St}{f:Callee}{as:List IV}{hs:List Arg}{r:IV×Cap×St}(h:bB (dt tab aa) st f as hs=some r):∃k,bB (sem tab aa k).call st f as hs=some r:=by
 unfold bB at h
 split at h
 ·rename_i q hh e1 e2
  split at h
  ·cases h
  ·rename_i m em
   split at h
   ·cases h
   ·rename_i v m' ec
    obtain⟨k,hk⟩:=f6.1 ec
    refine⟨k,?_⟩
    simp only[bB,e1,e2,em,hk]
    exact h
 ·cases h
theorem Iv {st:St}{k:IK}{r:IV×Cap×St}(h:k.run (dt tab aa) st=some r):∃n,k.run (sem tab aa n).call st=some r:=by
 cases k with
 |callF f as hs =>
  simp only[IK.run] at h ⊢
  split at h
  ·exact nv h
  ·cases h
 |callV g as hs =>
  simp only[IK.run] at h ⊢
  split at h
  ·split at h
   ·exact nv h
   ·exact nv h
   ·cases h
  ·cases h
 |_=>exact⟨0,h⟩
theorem ve {st:St}{o:IOp}{r:St}(h:o.run0 (dt tab aa) st=some r):∃n,o.run0 (sem tab aa n).call st=some r:=by
 unfold IOp.run0 at h ⊢
 split at h
 ·split at h
  ·rename_i e
   obtain⟨n,hn⟩:=Iv e
   exact⟨n,by rw[hn];exact h⟩
  ·cases h
 ·exact⟨0,h⟩
 ·cases h
theorem JO {st:St}{o:IOp}{r:St}(h:o.run (dt tab aa) st=some r):∃n,o.run (sem tab aa n).call st=some r:=by
 unfold IOp.run at h ⊢
 split at h
 ·split at h
  ·exact ve h
  ·cases h
 ·exact ve h
theorem uz:∀{l:List IOp}{st r:St},aA (dt tab aa) l st=some r→∃n,aA (sem tab aa n).call l st=some r
 |[],_,_,h=>⟨0,h⟩
 |o::l,st,r,h=>by
  simp only[aA] at h
  split at h
  ·rename_i e
   obtain⟨n1,h1⟩:=JO e
   obtain⟨n2,h2⟩:=uz h
   refine⟨max n1 n2,?_⟩
   simp only[aA]
   rw[xZ (fu tab aa (Nat.le_max_left n1 n2)).1 h1]
   exact mY (fu tab aa (Nat.le_max_right n1 n2)).1 h2
  ·cases h
theorem eW:∀{x:ICode}{st:St}{r:Ex×St},x.run (dt tab aa) (eU tab aa) st=some r→∃n,x.run (sem tab aa n).call (sem tab aa n).loop st=some r
 |.skip,_,_,h=>⟨0,h⟩
 |.ops is,st,r,h=>by
  simp only[ICode.run] at h ⊢
  split at h
  ·rename_i e;obtain⟨n,hn⟩:=uz e;exact⟨n,by rw[hn];exact h⟩
  ·cases h
 |.draw is _,st,r,h=>by
  simp only[ICode.run] at h ⊢
  split at h
  ·split at h
   ·rename_i e;obtain⟨n,hn⟩:=uz e;exact⟨n,by rw[hn];exact h⟩
   ·cases h
  ·cases h
 |.seq a b,st,r,h=>by
  simp only[ICode.run] at h ⊢
  split at h
  ·rename_i e
   obtain⟨n1,h1⟩:=eW e
   obtain⟨n2,h2⟩:=eW h
   refine⟨max n1 n2,?_⟩
   rw[cg (fu tab aa (Nat.le_max_left n1 n2)).1 (fu tab aa (Nat.le_max_left n1 n2)).2 h1]
   exact cg (fu tab aa (Nat.le_max_right n1 n2)).1 (fu tab aa (Nat.le_max_right n1 n2)).2 h2
  ·rename_i hn
   obtain⟨n1,h1⟩:=eW h
   refine⟨n1,?_⟩
   rw[h1]
   split
   ·rename_i e;cases e;exact (hn _ h).elim
   ·rfl
 |.cond d a b,st,r,h=>by
  simp only[ICode.run] at h ⊢
  split at h
  ·exact eW h
  ·exact eW h
  ·cases h
 |.block id b,st,r,h=>by
  simp only[ICode.run] at h ⊢
  split at h
  ·rename_i e;obtain⟨n,hn⟩:=eW e;exact⟨n,by rw[hn];exact h⟩
  ·rename_i hn
   obtain⟨n1,h1⟩:=eW h
   refine⟨n1,?_⟩
   rw[h1]
   split
   ·rename_i e;cases e;exact (hn _ _ h).elim
   ·rfl
 |.loop hd b,st,r,h=>kn.1 (by simpa only[ICode.run] using h)
 |.rangeF g fn site,st,r,h=>by
  simp only[ICode.run] at h ⊢
  split at h
  ·split at h
   ·split at h
    ·rename_i e;obtain⟨n,hn⟩:=f6.1 e;exact⟨n,by rw[hn];exact h⟩
    ·cases h
   ·cases h
  ·cases h
 |.exit _,_,_,h=>⟨0,h⟩
 |.ret,_,_,h=>⟨0,h⟩
theorem zN {fn:IFn}{as:List IV}{m:IM}{r:IV×IM}(h:fn.call (dt tab aa) (eU tab aa) as m=some r):∃n,fn.call (sem tab aa n).call (sem tab aa n).loop as m=some r:=by
 unfold IFn.call at h ⊢
 split at h
 ·cases h
 ·rename_i hn
  simp only[if_neg hn]
  split at h
  ·rename_i e;obtain⟨n,hn'⟩:=eW e;exact⟨n,by rw[hn'];exact h⟩
  ·cases h
theorem zY {rn:IRnd}{id:Nat}{tm:Env}{as:List IV}{m:IM}{r:IV×IM}(h:rn.call (dt tab aa) (eU tab aa) id tm as m=some r):∃n,rn.call (sem tab aa n).call (sem tab aa n).loop id tm as m=some r:=by
 unfold IRnd.call at h ⊢
 split at h
 ·cases h
 ·rename_i hn
  simp only[if_neg hn]
  split at h
  ·rename_i e
   obtain⟨n1,h1⟩:=eW e
   split at h
   ·rename_i e0
    split at h
    ·rename_i e1
     split at h
     ·rename_i e2
      obtain⟨n2,h2⟩:=eW e2
      refine⟨max n1 n2,?_⟩
      rw[cg (fu tab aa (Nat.le_max_left n1 n2)).1 (fu tab aa (Nat.le_max_left n1 n2)).2 h1]
      simp only[e0,e1]
      rw[cg (fu tab aa (Nat.le_max_right n1 n2)).1 (fu tab aa (Nat.le_max_right n1 n2)).2 h2]
      exact h
     ·cases h
    ·cases h
   ·cases h
  ·cases h
theorem wO {f:FuncId}{p:List IV→Option IV}(hp:aa f=some p) (as:List IV) (m:IM):dt tab aa (.f f) as m=(p as).map (·,m):=by
 ext r
 rw[f6]
 constructor
 ·rintro ⟨k,h⟩
  cases k with
  |zero=>simp[sem] at h
  |succ k=>rw[sem] at h;simp only[hp] at h;exact h
 ·intro h
  exact⟨1,by rw[sem];simp only[hp];exact h⟩
theorem aO {f:FuncId}{fn:IFn}(hp:aa f=none) (hf:tab.fns f=some fn) (as:List IV) (m:IM):dt tab aa (.f f) as m=fn.call (dt tab aa) (eU tab aa) as m:=by
 ext r
 rw[f6]
 constructor
 ·rintro ⟨k,h⟩
  cases k with
  |zero=>simp[sem] at h
  |succ k=>rw[sem] at h;simp only[hp,hf] at h;exact pE (mE k) (ka k) h
 ·intro h
  obtain⟨k,h⟩:=zN h
  exact⟨k+1,by rw[sem];simp only[hp,hf];exact h⟩
theorem C1 {id:Nat}{m:IM}{bz fn site:Nat}{tm:Env}{j:Nat}{r:IRnd}(hm:m.get id=.loop bz fn site tm j) (hr:tab.rnd fn site=some r) (as:List IV) :
  dt tab aa (.y id) as m=r.call (dt tab aa) (eU tab aa) id tm as m:=by
 ext q
 rw[f6]
 constructor
 ·rintro ⟨k,h⟩
  cases k with
  |zero=>simp[sem] at h
  |succ k=>rw[sem] at h;simp only[hm,hr] at h;exact pK (mE k) (ka k) h
 ·intro h
  obtain⟨k,h⟩:=zY h
  exact⟨k+1,by rw[sem];simp only[hm,hr];exact h⟩
theorem Co (hd:Head) (b:ICode) (st:St):eU tab aa hd b st=match st.head hd with
  |none=>none
  |some st=>match b.run (dt tab aa) (eU tab aa) st with
   |some (.normal,st)=>eU tab aa hd b st
   |r=>r:=by
 ext q
 rw[kn]
 constructor
 ·rintro ⟨k,h⟩
  cases k with
  |zero=>simp[sem] at h
  |succ k =>
   rw[sem] at h
   simp only at h
   split at h
   ·cases h
   ·rename_i s1 e1
    rw[e1]
    simp only
    split at h
    ·rename_i e;rw[cg (mE k) (ka k) e];exact ka k _ _ _ _ h
    ·rename_i hn;rw[cg (mE k) (ka k) h]
     split
     ·rename_i e;cases e;exact (hn _ h).elim
     ·rfl
 ·intro h
  split at h
  ·cases h
  ·rename_i s1 e1
   split at h
   ·rename_i s2 e
    obtain⟨n1,h1⟩:=eW e
    obtain⟨n2,h2⟩:=kn.1 h
    refine⟨max n1 n2+1,?_⟩
    rw[sem]
    simp only[e1]
    rw[cg (fu tab aa (Nat.le_max_left n1 n2)).1 (fu tab aa (Nat.le_max_left n1 n2)).2 h1]
    exact (fu tab aa (Nat.le_max_right n1 n2)).2 _ _ _ _ h2
   ·rename_i hn
    obtain⟨n1,h1⟩:=eW h
    refine⟨n1+1,?_⟩
    rw[sem]
    simp only[e1,h1]
    split
    ·rename_i e;cases e;exact (hn _ h).elim
    ·rfl
variable (tab aa)
noncomputable def lc (hd:Head) (b:ICode):Option St→Option (Ex×St)
 |none=>none
 |some st=>match b.run (dt tab aa) (eU tab aa) st with
  |some (.normal,st)=>eU tab aa hd b st
  |r=>r
variable {tab aa}
theorem aP (hd:Head) (b:ICode) (st:St):eU tab aa hd b st=lc tab aa hd b (st.head hd):=by
 rw[Co]
 cases st.head hd with
 |none=>rfl
 |some st=>rfl
theorem aM (hd:Head) (b:ICode) (st:St):lc tab aa hd b (some st)=match b.run (dt tab aa) (eU tab aa) st with
  |some (.normal,st)=>lc tab aa hd b (st.head hd)
  |r=>r:=by
 have:lc tab aa hd b (some st)=match b.run (dt tab aa) (eU tab aa) st with
  |some (.normal,st)=>eU tab aa hd b st
  |r=>r:=rfl
 rw[this]
 cases b.run (dt tab aa) (eU tab aa) st with
 |none=>rfl
 |some r =>
  obtain⟨e,st'⟩:=r
  cases e with
  |normal=>exact aP hd b st'
  |exit i=>rfl
  |ret=>rfl
end Go.Idl
namespace Go.Idl
open Go.RowKit
variable {X:Ctx}{G:Gh}{w w':World}
def POK (X:Ctx) (f:FuncId) (p:List IV→Option IV):Prop:=∀args v,p args=some v→(∀id,IV.yld id∉args) ∧
 ∀G m w rs,MR X G m w→WF X G w→(∀k,G.lb k=none)→VRs G args rs→Reach X f rs w (jk X G w m v)
theorem vX {m : IM} {v : IV} {r : Value} (hm : MR X G m w) (hw : WF X G w) (hl : ∀ k, G.lb k = none) (hv : VR G v r) (hb : Below w.heap.size w w') : jk X G w m v r w' := by
  have hk : ∀ b, b < w.heap.size → w'.heap[b]? = w.heap[b]? := hb.block
  have hbx : ∀ id b, G.bx id = some b → b < w.heap.size := fun id b e => hw.boxlt b (.inl ⟨id, e⟩)
  refine ⟨G, ⟨?_, ?_, hm.dom, hm.hid⟩, ?_, hv, ?_⟩
  · intro id hn
    obtain ⟨b, ro, e1, e2, e3⟩ := hm.bx id hn
    exact ⟨b, ro, e1, by rw [hk b (hbx id b e1)]; exact e2, e3⟩
  · intro id cs cp off sz e1 e2 b r e3 e4
    rw [hb.cell (p := ⟨b, off, none⟩) (hbx id b e3)] at e4
    exact hm.own id cs cp off sz e1 e2 b r e3 e4
  · have lt_imm : ∀ b o v, G.imm b o = some v → b < w.heap.size := fun b o v e => by
      have := hw.imm b o v e
      rcases Nat.lt_or_ge b w.heap.size with h | h
      · exact h
      · simp [World.cell?, Array.getElem?_eq_none h] at this
    have lt_ow : ∀ b o l, G.ow b o = some l → b < w.heap.size := fun b o l e => by
      have := (hw.owcell b o l e).1
      rcases Nat.lt_or_ge b w.heap.size with h | h
      · exact h
      · simp [World.cell?, Array.getElem?_eq_none h] at this
    exact { imm := fun b o v e => by rw [hb.cell (p := ⟨b, o, none⟩) (lt_imm b o v e)]; exact hw.imm b o v e, inj := hw.inj, linj := hw.linj, disj := hw.disj,
            boxlt := fun b h => Nat.lt_of_lt_of_le (hw.boxlt b h) hb.size, boximm := hw.boximm, boxow := hw.boxow, owimm := hw.owimm,
            owcell := fun b o l e => by rw [hb.cell (p := ⟨b, o, none⟩) (lt_ow b o l e), hb.frozen (p := ⟨b, o, none⟩) (lt_ow b o l e)]; exact hw.owcell b o l e, glob := hw.glob, old := Nat.le_trans hw.old hb.size }
  · exact { os := hb.os, tape := hb.tape, output := hb.output, size := hb.size, imm := fun _ _ _ e => e, bx := fun _ _ e => e,
            other := fun b o e _ _ => by rw [hk b (eC e)]; exact e,
            cells := fun b c t f e _ => ⟨c, f, by rw [hk b (eC e)]; exact e, rfl, fun _ _ => rfl, .inl rfl⟩,
            immNew := fun _ _ _ _ _ e => .inl e, owNew := fun b o l _ e => by rw [e]; rfl, boxNew := fun _ _ q => q, hid := rfl, old := rfl, bxNew := fun _ _ e => .inl e,
            loop := fun b L e => ⟨L, by rw [hk b (eC e)]; exact e⟩ }
theorem wT {m:IM}{v:IV}{r:Value}(hm:MR X G m w) (hw:WF X G w) (hv:VR G v r):jk X G w m v r w:=⟨G,hm,hw,hv,Step.refl _ _⟩
theorem lL {f:FuncId}{p:List IV→Option IV}{e:Array Value→Sem Value}(hc:∀args w,(callFunc f args).run X.P w=((e args).run X.P w).andThen fun v w'=>.ok (.value v) w')
  (hp:∀args v,p args=some v→(∀id,IV.yld id∉args)∧∀G w rs,VRs G args rs→∃r,(e ⟨rs⟩).run X.P w=.ok r w∧VR G v r):POK X f p:=by
 intro args v h
 obtain⟨h1,h2⟩:=hp args v h
 refine⟨h1,fun G m w rs hm hw hl ha=>?_⟩
 obtain⟨r,e1,e2⟩:=h2 G w rs ha
 exact .inr ⟨r,w,by rw[hc,e1];rfl,wT hm hw e2⟩
theorem nw {f:FuncId}{p:List IV→Option IV}{fn:Func}(hf:X.P.funcs[f]?=some fn) (hb:fn.body.isNone=false) (hn:(fn.name == "runtime.NumGoroutine")=false)
  (hp:∀args v,p args=some v→(∀id,IV.yld id∉args)∧∀G w rs,VRs G args rs→Calls X.P f ⟨rs⟩ w fun e w'=>∃r,e=.returned r∧VR G v r∧Below w.heap.size w w'):POK X f p:=by
 intro args v h
 obtain⟨h1,h2⟩:=hp args v h
 refine⟨h1,fun G m w rs hm hw hl ha=>.inl ⟨?_,callsIn_wide.2 ((h2 G w rs ha).mono fun e w' ⟨r,q1,q2,q3⟩=>⟨r,q1,vX hm hw hl q2 q3⟩)⟩⟩
 have hpr:(program).run X.P w=.ok X.P w:=rfl
 have h1:fn.name ≠ "runtime.NumGoroutine" := by simpa using hn
 cases hbb:fn.body with
 |none=>rw[hbb] at hb;cases hb
 |some c=>simp[callFunc,hpr,hf,h1,hbb]
def gY (c:UInt8):List UInt8→Nat→Int
 |[],_=>-1
 |b::r,i=>match b==c with
  |true=>i
  |false=>gY c r (i+1)
theorem tD (c:UInt8):∀(l:List UInt8) (k:Nat),gY c l k=if Lib.indexByte l c=-1 then -1 else Lib.indexByte l c+k
 |[],k=>by simp[gY,Lib.indexByte]
 |b::l,k=>by
  simp only[gY,Lib.indexByte]
  by_cases h:(b==c)=true
  ·simp[h]
  ·have h':(b==c)=false:=by simpa using h
   simp only[h',Bool.false_eq_true,if_false]
   rw[tD c l (k+1)]
   by_cases h2:Lib.indexByte l c=-1
   ·simp[h2]
   ·have:=Lib.indexByte_ge l c
    have h3:¬Lib.indexByte l c+1=-1:=by omega
    simp[h2,h3]
    omega
def BJ (c:UInt8):List UInt8→Nat
 |[]=>0
 |b::r=>match b==c with
  |true=>BJ c r+1
  |false=>BJ c r
theorem yj (c:UInt8):∀l:List UInt8,BJ c l=Lib.countByte l c
 |[]=>rfl
 |b::l=>by
  have:=yj c l
  simp only[BJ,Lib.countByte,List.count_cons] at this ⊢
  cases h:b==c<;>simp[this]
def DB:List UInt8→List UInt8→Int
 |[],[]=>0
 |[],_::_=>-1
 |_::_,[]=>1
 |a::x,b::y=>match Nat.blt a.toNat b.toNat with
  |true=>-1
  |false=>match Nat.blt b.toNat a.toNat with
   |true=>1
   |false=>DB x y
theorem y8:∀a b:List UInt8,DB a b=Lib.compareBytes a b
 |[],[]=>rfl
 |[],_::_=>rfl
 |_::_,[]=>rfl
 |a::x,b::y=>by
  simp only[DB,Lib.compareBytes]
  by_cases h:a<b
  ·have:Nat.blt a.toNat b.toNat=true:=by rw[Nat.blt_eq];exact h
   simp[this,h]
  ·have h1:Nat.blt a.toNat b.toNat=false:=by
    cases q:Nat.blt a.toNat b.toNat with
    |false=>rfl
    |true=>rw[Nat.blt_eq] at q;exact absurd q h
   by_cases h2:b<a
   ·have:Nat.blt b.toNat a.toNat=true:=by rw[Nat.blt_eq];exact h2
    simp[h1,this,h,h2]
   ·have h3:Nat.blt b.toNat a.toNat=false:=by
     cases q:Nat.blt b.toNat a.toNat with
     |false=>rfl
     |true=>rw[Nat.blt_eq] at q;exact absurd q h2
    simp[h1,h3,h,h2,y8 x y]
def iF:List IV→Option IV
 |[.str s,.int .u8 c]=>some (.int .i64 (gY c.toNat.toUInt8 s 0))
 |_=>none
def lA:List IV→Option IV
 |[.str s,.int .u8 c]=>some (.int .i64 (BJ c.toNat.toUInt8 s))
 |_=>none
def qD:List IV→Option IV
 |[.str a,.str b]=>some (.int .i64 (DB a b))
 |_=>none
theorem kr {a b:IV}{rs:List Value}(h:VRs G [a,b] rs):∃x y,rs=[x,y]∧VR G a x∧VR G b y:=by
 obtain⟨x,r1,rfl,h1,h⟩:=h.cases_cons
 obtain⟨y,r2,rfl,h2,h⟩:=h.cases_cons
 rw[h.cases_nil]
 exact⟨x,y,rfl,h1,h2⟩
theorem rZ {f:FuncId}(hc:∀args w,(callFunc f args).run X.P w=((Extern.BytealgIndexByte.indexByte args).run X.P w).andThen fun v w'=>.ok (.value v) w'):POK X f iF:=by
 refine lL hc fun args v h=>?_
 unfold iF at h
 split at h
 ·rename_i s c
  cases h
  refine⟨by simp,fun G w rs ha=>?_⟩
  obtain⟨x,y,rfl,h1,h2⟩:=kr ha
  cases h1;cases h2
  refine⟨_,Lib.run_indexByteString _ _ _,?_⟩
  have e:=tD c.toNat.toUInt8 s 0
  have:gY c.toNat.toUInt8 s 0=Lib.indexByte s c.toNat.toUInt8:=by
   rw[e];split
   ·rename_i q;exact q.symm
   ·simp
  rw[this]
  exact .int _ _
 ·cases h
theorem sd {f:FuncId}(hc:∀args w,(callFunc f args).run X.P w=((Extern.BytealgCount.count args).run X.P w).andThen fun v w'=>.ok (.value v) w'):POK X f lA:=by
 refine lL hc fun args v h=>?_
 unfold lA at h
 split at h
 ·rename_i s c
  cases h
  refine⟨by simp,fun G w rs ha=>?_⟩
  obtain⟨x,y,rfl,h1,h2⟩:=kr ha
  cases h1;cases h2
  refine⟨_,Lib.run_countString _ _ _,?_⟩
  rw[yj]
  exact .int _ _
 ·cases h
theorem wc {f:FuncId}(hc:∀args w,(callFunc f args).run X.P w=((Extern.BytealgCompare.compare args).run X.P w).andThen fun v w'=>.ok (.value v) w'):POK X f qD:=by
 refine lL hc fun args v h=>?_
 unfold qD at h
 split at h
 ·rename_i a b
  cases h
  refine⟨by simp,fun G w rs ha=>?_⟩
  obtain⟨x,y,rfl,h1,h2⟩:=kr ha
  cases h1;cases h2
  refine⟨_,Lib.run_compareString _ _ _,?_⟩
  rw[y8]
  exact .int _ _
 ·cases h
def DI (s:List UInt8):Nat→List UInt8
 |0=>[]
 |n+1=>s++DI s n
def tJ:List IV→Option IV
 |[.str s,.int .i64 n]=>match decide (0≤n)&&Nat.ble n.toNat 9223372036854775807&&Nat.ble (s.length*n.toNat) 140737488355328 with
  |true=>some (.str (DI s n.toNat))
  |false=>none
 |_=>none
def p7:List UInt8→Bool
 |[]=>true
 |b::r=>Nat.blt b.toNat 128&&p7 r
theorem qk:∀{l:List UInt8},p7 l=true→∀(j:Nat) b,l[j]?=some b→b.toNat<128
 |[],_,j,b,h=>by simp at h
 |c::l,h,j,b,hb=>by
  simp only[p7,Bool.and_eq_true,Nat.blt_eq] at h
  cases j with
  |zero=>simp only[List.getElem?_cons_zero,Option.some.injEq] at hb;subst hb;exact h.1
  |succ j=>exact qk h.2 j b (by simpa using hb)
def Ez (c:UInt8):List UInt8→Bool
 |[]=>false
 |b::r=>Nat.beq b.toNat c.toNat||Ez c r
def kt (cs:List UInt8):List UInt8→Nat→Int
 |[],_=>-1
 |b::r,i=>match Ez b cs with
  |true=>i
  |false=>kt cs r (i+1)
def nj:List IV→Option IV
 |[.str s,.str cs]=>match p7 s&&p7 cs&&Nat.blt s.length 4294967281&&Nat.blt cs.length 4294967281 with
  |true=>some (.int .i64 (kt cs s 0))
  |false=>none
 |_=>none
theorem y7 (s:List UInt8):∀n,DI s n=Lib.repeatL s n
 |0=>rfl
 |n+1=>by simp[DI,Lib.repeatL,y7 s n]
theorem xL {f:FuncId}{fn:Func}(hf:X.P.funcs[f]?=some fn) (hb:fn.body.isNone=false) (hn:(fn.name == "runtime.NumGoroutine")=false)
  (hc:∀(s:ByteArray) (c:Nat) (w:World),c≤9223372036854775807→s.size*c≤140737488355328 →
   Calls X.P f #[.string s,.int .i64 c] w fun e w'=>e=.returned (.string ⟨(Lib.repeatL s.data.toList c).toArray⟩)∧Below w.heap.size w w'):POK X f tJ:=by
 refine nw hf hb hn fun args v h=>?_
 unfold tJ at h
 split at h
 ·rename_i s n
  split at h
  ·rename_i hcond
   cases h
   simp only[Bool.and_eq_true,decide_eq_true_eq] at hcond
   obtain⟨⟨h0,h1⟩,h2⟩:=hcond
   refine⟨by simp,fun G w rs ha=>?_⟩
   obtain⟨x,y,rfl,k1,k2⟩:=kr ha
   cases k1;cases k2
   have hn:n=(n.toNat:Int):=by omega
   rw[hn]
   refine (hc ⟨⟨s⟩⟩ n.toNat w (Nat.le_of_ble_eq_true h1) (Nat.le_of_ble_eq_true h2)).mono fun e w' ⟨q1,q2⟩=>⟨_,q1,?_,q2⟩
   rw[Int.toNat_natCast,y7]
   exact .str _
  ·cases h
 ·cases h
theorem yx (c:UInt8):∀l:List UInt8,Ez c l=l.contains c
 |[]=>rfl
 |b::l=>by
  rw[Ez,List.contains_cons,yx c l]
  congr 1
  by_cases h:c=b
  ·subst h;simp
  ·have:b.toNat≠c.toNat:=fun e=>h (UInt8.toNat_inj.1 e.symm)
   have hb:Nat.beq b.toNat c.toNat=false:=by
    cases q:Nat.beq b.toNat c.toNat with
    |false=>rfl
    |true=>exact absurd (Nat.eq_of_beq_eq_true q) this
   rw[hb]
   simp[h]
theorem pU (cs:List UInt8):∀(l:List UInt8) (k:Nat),kt cs l k=if Lib.indexAny l cs=-1 then -1 else Lib.indexAny l cs+k
 |[],k=>by simp[kt,Lib.indexAny]
 |b::l,k=>by
  simp only[kt,Lib.indexAny]
  rw[yx]
  by_cases h:cs.contains b=true
  ·simp only[h,if_true];simp
  ·have h':cs.contains b=false:=by simpa using h
   simp only[h',Bool.false_eq_true,if_false]
   rw[pU cs l (k+1)]
   by_cases h2:Lib.indexAny l cs=-1
   ·simp[h2]
   ·have:=Lib.indexAny_ge cs l
    have h3:¬Lib.indexAny l cs+1=-1:=by omega
    simp[h2,h3]
    omega
theorem ti {f:FuncId}{fn:Func}(hf:X.P.funcs[f]?=some fn) (hb:fn.body.isNone=false) (hn:(fn.name == "runtime.NumGoroutine")=false)
  (hc:∀(s chars:ByteArray) (w:World),s.size<4294967281→chars.size<4294967281→(∀(j:Nat) b,s.data.toList[j]?=some b→b.toNat<128)→(∀(j:Nat) b,chars.data.toList[j]?=some b→b.toNat<128) →
   Calls X.P f #[.string s,.string chars] w fun e w'=>e=.returned (.int .i64 (Lib.indexAny s.data.toList chars.data.toList))∧Below w.heap.size w w'):POK X f nj:=by
 refine nw hf hb hn fun args v h=>?_
 unfold nj at h
 split at h
 ·rename_i s cs
  split at h
  ·rename_i hcond
   cases h
   simp only[Bool.and_eq_true,Nat.blt_eq] at hcond
   obtain⟨⟨⟨h1,h2⟩,h3⟩,h4⟩:=hcond
   refine⟨by simp,fun G w rs ha=>?_⟩
   obtain⟨x,y,rfl,k1,k2⟩:=kr ha
   cases k1;cases k2
   refine (hc ⟨⟨s⟩⟩ ⟨⟨cs⟩⟩ w h3 h4 (qk h1) (qk h2)).mono fun e w' ⟨q1,q2⟩=>⟨_,q1,?_,q2⟩
   have e1:=pU cs s 0
   have:kt cs s 0=Lib.indexAny s cs:=by
    rw[e1];split
    ·rename_i q;exact q.symm
    ·simp
   rw[this]
   exact .int _ _
  ·cases h
 ·cases h
def tl:List IV→Option IV
 |[.str s,.str [c]]=>some (.int .i64 (gY c s 0))
 |_=>none
theorem xC {f:FuncId}{fn:Func}(hf:X.P.funcs[f]?=some fn) (hb:fn.body.isNone=false) (hn:(fn.name == "runtime.NumGoroutine")=false)
  (hc:∀(s:ByteArray) (c:UInt8) (w:World),Calls X.P f #[.string s,.string ⟨#[c]⟩] w fun e w'=>e=.returned (.int .i64 (Lib.indexByte s.data.toList c))∧w'=w):POK X f tl:=by
 refine nw hf hb hn fun args v h=>?_
 unfold tl at h
 split at h
 ·rename_i s c
  cases h
  refine⟨by simp,fun G w rs ha=>?_⟩
  obtain⟨x,y,rfl,h1,h2⟩:=kr ha
  cases h1;cases h2
  have e:=tD c s 0
  have e':gY c s 0=Lib.indexByte s c:=by
   rw[e];split
   ·rename_i q;exact q.symm
   ·simp
  refine (hc ⟨⟨s⟩⟩ c w).mono fun e w' ⟨q1,q2⟩=>⟨_,q1,?_,by subst q2;exact Below.refl _ _⟩
  rw[e']
  exact .int _ _
 ·cases h
end Go.Idl
