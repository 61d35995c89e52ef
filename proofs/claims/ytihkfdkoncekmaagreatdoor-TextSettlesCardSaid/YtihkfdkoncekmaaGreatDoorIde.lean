/- This text proves that a reckoned check of the code suffices, gives the equations of runs without a bound, and proves what the taken library functions return; it has no conditions. -/
import Derived.Test.YtihkfdkoncekmaaGreatDoorIdd
import Derived.Test.YtihkfdkoncekmaaGreatDoorIda
import Derived.Lib.Bytealg
import Derived.Lib.Repeat
import Derived.Lib.IndexAny
import Derived.Below
set_option linter.unusedSimpArgs false
set_option linter.unusedVariables false
namespace Go.Idl
mutual
def ckV:Nat→IV→Value→Bool
 |0,_,_=>false
 |n+1,x,v=>match x,v with
  |.bool b,.bool c=>b==c
  |.int k i,.int k' i'=>decide (k=k')&&decide (i=i')
  |.float k b,.float k' b'=>decide (k=k')&&Nat.beq b b'
  |.cplx k a b,.complex k' a' b'=>decide (k=k')&&Nat.beq a a'&&Nat.beq b b'
  |.str s,.string t=>decide (s=t.data.toList)
  |.nilPtr,.pointer none=>true
  |.nilSlice,.slice none 0 0=>true
  |.nilMap,.map none=>true
  |.nilFunc,.nilFunc=>true
  |.nilIface,.nilIface=>true
  |.func f [] [],.func (.func g) a b=>Nat.beq f g&&a.toList.isEmpty&&b.toList.isEmpty
  |.agg cs,.agg rc=>xE n cs rc.toList
  |.tup cs,.tuple rc=>xE n cs rc.toList
  |.iface t x,.iface u v=>Nat.beq t u&&ckV n x v
  |_,_=>false
def xE:Nat→List IV→List Value→Bool
 |0,_,_=>false
 |n+1,cs,rc=>match cs,rc with
  |[],[]=>true
  |x::xs,v::vs=>ckV n x v&&xE n xs vs
  |_,_=>false
end
theorem eL {i j:Nat}(h:Nat.beq i j=true):i=j:=Nat.eq_of_beq_eq_true h
mutual
theorem kn:∀(n:Nat) (x:IV) (v:Value),ckV n x v=true→∀G,VR G x v
 |0,_,_,h=>by simp[ckV] at h
 |n+1,x,v,h=>by
  intro G
  simp only[ckV] at h
  split at h
  ·simp only[beq_iff_eq] at h;subst h;exact .bool _
  ·simp only[Bool.and_eq_true,decide_eq_true_eq] at h;obtain⟨rfl,rfl⟩:=h;exact .int _ _
  ·simp only[Bool.and_eq_true,decide_eq_true_eq] at h;obtain⟨rfl,h⟩:=h;rw[eL h];exact .float _ _
  ·simp only[Bool.and_eq_true,decide_eq_true_eq] at h;obtain⟨⟨rfl,h1⟩,h2⟩:=h;rw[eL h1,eL h2];exact .cplx _ _ _
  ·rename_i s t
   simp only[decide_eq_true_eq] at h
   obtain⟨⟨l⟩⟩:=t
   simp only at h
   subst h
   exact .str _
  ·exact .nilPtr
  ·exact .nilSlice
  ·exact .nilMap
  ·exact .nilFunc
  ·exact .nilIface
  ·rename_i f g a b
   simp only[Bool.and_eq_true,List.isEmpty_iff] at h
   obtain⟨⟨h1,h2⟩,h3⟩:=h
   rw[eL h1]
   obtain⟨a⟩:=a
   obtain⟨b⟩:=b
   simp only at h2 h3
   subst h2;subst h3
   exact .func _ [] [] [] [] rfl rfl (fun i h=>absurd h (by simp)) (fun i h=>absurd h (by simp))
  ·rename_i cs rc
   obtain⟨rc⟩:=rc
   exact VR.agg' (jB n cs rc h G)
  ·rename_i cs rc
   obtain⟨rc⟩:=rc
   exact VR.tup' (jB n cs rc h G)
  ·simp only[Bool.and_eq_true] at h
   rw[eL h.1]
   exact .iface _ _ _ (kn n _ _ h.2 G)
  ·cases h
theorem jB:∀(n:Nat) (xs:List IV) (vs:List Value),xE n xs vs=true→∀G,VRs G xs vs
 |0,_,_,h=>by simp[xE] at h
 |n+1,xs,vs,h=>by
  intro G
  simp only[xE] at h
  split at h
  ·exact VRs.nil
  ·simp only[Bool.and_eq_true] at h
   exact VRs.cons (kn n _ _ h.1 G) (jB n _ _ h.2 G)
  ·cases h
end
def eqV:IV→IV→Bool
 |.bool b,.bool c=>b==c
 |.int k i,.int k' i'=>decide (k=k')&&decide (i=i')
 |.str s,.str t=>decide (s=t)
 |.nilPtr,.nilPtr=>true
 |.nilSlice,.nilSlice=>true
 |.func f [] [],.func g [] []=>Nat.beq f g
 |.nilFunc,.nilFunc=>true
 |_,_=>false
def AW:List IV→List IV→Bool
 |[],[]=>true
 |x::xs,y::ys=>eqV x y&&AW xs ys
 |_,_=>false
theorem Az {x y:IV}(h:eqV x y=true):x=y:=by
 unfold eqV at h
 split at h<;>first | rfl | (cases h;done) | skip
 ·simp only[beq_iff_eq] at h;rw[h]
 ·simp only[Bool.and_eq_true,decide_eq_true_eq] at h;obtain⟨rfl,rfl⟩:=h;rfl
 ·simp only[decide_eq_true_eq] at h;rw[h]
 ·rw[eL h]
theorem qx:∀{xs ys:List IV},AW xs ys=true→xs=ys
 |[],[],_=>rfl
 |x::xs,y::ys,h=>by
  simp only[AW,Bool.and_eq_true] at h
  rw[Az h.1,qx h.2]
 |[],_::_,h=>by simp[AW] at h
 |_::_,[],h=>by simp[AW] at h
section
variable (P:Program) (rows:Nat→Option (List IV))
def dZ:Operand→Arg→Bool
 |.tmp i,.t j=>Nat.beq i j
 |.const v,.c x=>ckV 20000 x v
 |.global g,.c (.pI row 0)=>match rows g with
  |some r=>AW r row
  |none=>false
 |.func f,.c (.func g [] [])=>Nat.beq f g
 |_,_=>false
def jH:List Operand→List Arg→Bool
 |[],[]=>true
 |x::xs,a::as=>dZ rows x a&&jH xs as
 |_,_=>false
variable {rows}
theorem aI {x:Operand}{a:Arg}(h:dZ rows x a=true):ArgR rows x a:=by
 unfold dZ at h
 split at h
 ·rw[eL h];exact .tmp _
 ·exact .const _ _ (kn _ _ _ h)
 ·split at h
  ·rename_i r hr
   rw[←qx h]
   exact .glob _ _ hr
  ·cases h
 ·rw[eL h];exact .func _
 ·cases h
theorem gx:∀{xs:List Operand}{as:List Arg},jH rows xs as=true→ArgsR rows xs as
 |[],[],_=>.nil
 |x::xs,a::as,h=>by
  simp only[jH,Bool.and_eq_true] at h
  exact .cons (aI h.1) (gx h.2)
 |[],_::_,h=>by simp[jH] at h
 |_::_,[],h=>by simp[jH] at h
end
def Dl:TypeDesc→Bool
 |.struct _ | .array _ _=>true
 |_=>false
def jP (P:Program) (t:TypeId) (n:Nat) (agg:Bool):Bool :=
 match P.underlying t,P.info? t with
 |some d,some i=>Nat.beq i.size n&&(agg==Dl d)&&(agg||Nat.beq n 1)
 |_,_=>false
theorem dP {P:Program}{t:TypeId}{n:Nat}{agg:Bool}(h:jP P t n agg=true):∃d bytes,TyR P t d n bytes agg∧∃i,P.info? t=some i∧i.bytes=bytes:=by
 unfold jP at h
 split at h
 ·rename_i d i e1 e2
  simp only[Bool.and_eq_true,beq_iff_eq,Bool.or_eq_true] at h
  obtain⟨⟨h1,h2⟩,h3⟩:=h
  refine⟨d,i.bytes,⟨e1,⟨i,e2,eL h1,rfl⟩,by rw[h2];cases d<;>rfl,fun ha=>?_⟩,i,e2,rfl⟩
  rcases h3 with q | q
  ·rw[ha] at q;cases q
  ·exact eL q
 ·cases h
def kT (P:Program) (t:TypeId):Nat:=match P.info? t with | some i=>i.size | none=>0
def bytesOf (P:Program) (t:TypeId):Nat:=match P.info? t with | some i=>i.bytes | none=>0
def og (P:Program) (t:TypeId):Bool:=match P.underlying t with | some d=>Dl d | none=>false
def rQ (P:Program) (t:TypeId):Bool:=jP P t (kT P t) (og P t)
def jd (P:Program) (t:TypeId) (zero:List IV):Bool :=
 match P.info? t with
 |some i=>match i.zero with
  |some v=>Nat.beq i.size zero.length&&xE 20000 zero v.cells.toList
  |none=>false
 |none=>false
theorem eF {P:Program}{t:TypeId}{zero:List IV}(h:jd P t zero=true):gh P t zero:=by
 unfold jd at h
 split at h
 ·rename_i i ei
  split at h
  ·rename_i v ev
   simp only[Bool.and_eq_true] at h
   have hv:=jB _ _ _ h.2
   exact⟨i,v,ei,ev,(hv ⟨fun _ _=>none,fun _=>none,fun _=>none,fun _ _=>none,fun _=>false,0⟩).1,eL h.1,hv⟩
  ·cases h
 ·cases h
def uj:EqD→TypeDesc→Bool
 |.bool,.bool=>true
 |.int,.int _=>true
 |.str,.string=>true
 |.float,.float _=>true
 |.ptr,.pointer _=>true
 |.slice,.slice _=>true
 |.func,.func ..=>true
 |.map,.map ..=>true
 |_,_=>false
theorem iu {e:EqD}{d:TypeDesc}(h:uj e d=true):gH e d:=by
 cases e<;>cases d<;>first | trivial | cases h
def CP:EqD→TypeDesc→Bool
 |.bool,.bool=>true
 |.int,.int _=>true
 |.str,.string=>true
 |_,_=>false
theorem ot {e:EqD}{d:TypeDesc}(h:CP e d=true):iy e d:=by
 cases e<;>cases d<;>first | trivial | cases h
def iZ:List (Nat×Nat)→List (Nat×Nat)→Bool
 |[],[]=>true
 |(a,b)::r,(c,d)::s=>Nat.beq a c&&Nat.beq b d&&iZ r s
 |_,_=>false
theorem gT:∀{r s:List (Nat×Nat)},iZ r s=true→r=s
 |[],[],_=>rfl
 |(a,b)::r,(c,d)::s,h=>by
  simp only[iZ,Bool.and_eq_true] at h
  rw[eL h.1.1,eL h.1.2,gT h.2]
 |[],_::_,h=>by simp[iZ] at h
 |_::_,[],h=>by simp[iZ] at h
def ij (P:Program) (t:TypeId):Bool:=match P.underlying t with | some .string=>true | _=>false
def pG (P:Program) (t:TypeId):Option IntKind:=match P.underlying t with | some (.int k)=>some k | _=>none
def iW (P:Program) (t:TypeId):Option TypeId:=match P.underlying t with | some (.slice e)=>some e | _=>none
def mE (P:Program) (t:TypeId):Bool:=match P.underlying t with | some (.int .u8)=>true | _=>false
def uo (P:Program) (t:TypeId):Option (Nat×TypeId):=match P.underlying t with | some (.array n e)=>some (n,e) | _=>none
def kJ (P:Program) (t:TypeId):Option (Array Field):=match P.underlying t with | some (.struct f)=>some f | _=>none
def GL (P:Program) (t:TypeId):Option TypeId:=match P.underlying t with | some (.pointer e)=>some e | _=>none
def B3 (P:Program) (t:TypeId):Option (TypeId×TypeId):=match P.underlying t with | some (.map k e)=>some (k,e) | _=>none
theorem f3 {P:Program}{t:TypeId}(h:ij P t=true):P.underlying t=some .string:=by
 unfold ij at h;split at h<;>first | assumption | cases h
theorem rq {P:Program}{t:TypeId}{k:IntKind}(h:pG P t=some k):P.underlying t=some (.int k):=by
 unfold pG at h;split at h<;>first | (cases h;assumption) | cases h
theorem f5 {P:Program}{t e:TypeId}(h:iW P t=some e):P.underlying t=some (.slice e):=by
 unfold iW at h;split at h<;>first | (cases h;assumption) | cases h
theorem nL {P:Program}{t:TypeId}(h:mE P t=true):P.underlying t=some (.int .u8):=by
 unfold mE at h;split at h<;>first | assumption | cases h
theorem lT {P:Program}{t:TypeId}{n:Nat}{e:TypeId}(h:uo P t=some (n,e)):P.underlying t=some (.array n e):=by
 unfold uo at h;split at h<;>first | (cases h;assumption) | cases h
theorem kj {P:Program}{t:TypeId}{f:Array Field}(h:kJ P t=some f):P.underlying t=some (.struct f):=by
 unfold kJ at h;split at h<;>first | (cases h;assumption) | cases h
theorem GN {P:Program}{t e:TypeId}(h:GL P t=some e):P.underlying t=some (.pointer e):=by
 unfold GL at h;split at h<;>first | (cases h;assumption) | cases h
theorem xO {P:Program}{t k e:TypeId}(h:B3 P t=some (k,e)):P.underlying t=some (.map k e):=by
 unfold B3 at h;split at h<;>first | (cases h;assumption) | cases h
def mx (P:Program):List Field→Bool
 |[]=>true
 |f::r=>rQ P f.type&&mx P r
theorem mQ {P:Program}:∀{l:List Field},mx P l=true→∀(j:Nat) f,l[j]?=some f→rQ P f.type=true
 |[],_,j,f,h=>by simp at h
 |g::l,h,j,f,hf=>by
  simp only[mx,Bool.and_eq_true] at h
  cases j with
  |zero=>simp only[List.getElem?_cons_zero,Option.some.injEq] at hf;subst hf;exact h.1
  |succ j=>exact mQ h.2 j f (by simpa using hf)
def qk (P:Program) (fields:List Field):List (Nat×Operand)→Option (List (Nat×Nat))
 |[]=>some []
 |p::r=>match fields[p.1]?,qk P fields r with
  |some f,some l=>some ((f.offset,kT P f.type)::l)
  |_,_=>none
theorem mD {P:Program}{fields:Array Field}:∀{ps:List (Nat×Operand)}{l:List (Nat×Nat)},qk P fields.toList ps=some l →
  l=ps.map (fun p=>(((fields[p.1]?).map (·.offset)).getD 0,(((fields[p.1]?).map fun f=>kT P f.type).getD 0)))∧∀p∈ps,p.1<fields.size
 |[],l,h=>by simp only[qk,Option.some.injEq] at h;subst h;simp
 |p::r,l,h=>by
  simp only[qk] at h
  split at h
  ·rename_i f l' e1 e2
   simp only[Option.some.injEq] at h
   subst h
   obtain⟨h1,h2⟩:=mD e2
   have e1':fields[p.1]?=some f:=by simpa using e1
   refine⟨by rw[List.map_cons,←h1,e1'];rfl,fun q hq=>?_⟩
   rcases List.mem_cons.1 hq with rfl | hq
   ·exact (Array.getElem?_eq_some_iff.1 e1').1
   ·exact h2 q hq
  ·cases h
end Go.Idl
namespace Go.Idl
theorem qP {P:Program}{t:TypeId}{d:TypeDesc}{n:Nat}{agg:Bool}(hu:P.underlying t=some d) (h:jP P t n agg=true):∃bytes,TyR P t d n bytes agg∧bytesOf P t=bytes:=by
 obtain⟨d',bytes,ht,i,h1,h2⟩:=dP h
 have:=ht.und
 rw[hu] at this
 cases this
 exact⟨bytes,ht,by simp[bytesOf,h1,h2]⟩
theorem f6 {P:Program}{t:TypeId}(h:rQ P t=true):∃d b,TyR P t d (kT P t) b (og P t):=by
 obtain⟨d,b,ht,-⟩:=dP h
 exact⟨d,b,ht⟩
def when {α:Type}(b:Bool) (x:α):Option α:=match b with | true=>some x | false=>none
theorem dC {α:Type}{b:Bool}{x y:α}(h:when b x=some y):b=true∧x=y:=by
 unfold when at h;split at h<;>first | (cases h;exact⟨rfl,rfl⟩) | cases h
def tU {α:Type}(o:Option α) (b:Bool):Bool:=o.isSome==b
def kV:Op→Option (Builtin×List Operand×List TypeId)
 |.call ⟨.builtin b,xs,ts⟩=>some (b,xs.toList,ts.toList)
 |_=>none
theorem i4 {op:Op}{b:Builtin}{xs:List Operand}{ts:List TypeId}(h:kV op=some (b,xs,ts)):op=.call ⟨.builtin b,⟨xs⟩,⟨ts⟩⟩:=by
 unfold kV at h
 split at h
 ·rename_i b' xs' ts'
  obtain⟨xs'⟩:=xs'
  obtain⟨ts'⟩:=ts'
  cases h;rfl
 ·cases h
def nv (P:Program):List Field→List (Nat×EqD)→Bool
 |[],[]=>true
 |f::fs,(o,d)::plan=>!(f.name == "_")&&Nat.beq o f.offset&&(match P.underlying f.type with | some d'=>uj d d' | none=>false)&&jP P f.type (kT P f.type) false&&nv P fs plan
 |_,_=>false
theorem mC {P:Program}:∀{fs:List Field}{plan:List (Nat×EqD)},nv P fs plan=true→PlanR P fs plan
 |[],[],_=>.nil
 |f::fs,(o,d)::plan,h=>by
  simp only[nv,Bool.and_eq_true,Bool.not_eq_true'] at h
  obtain⟨⟨⟨⟨h1,h2⟩,h3⟩,h4⟩,h5⟩:=h
  rw[eL h2]
  split at h3
  ·rename_i d' e
   obtain⟨b,q,-⟩:=qP e h4
   exact .cons (by simpa using h1) q (iu h3) (mC h5)
  ·cases h3
 |[],_::_,h=>by simp[nv] at h
 |_::_,[],h=>by simp[nv] at h
def tf (ed:EqD):Nat→Nat→List (Nat×EqD)→Bool
 |_,0,[]=>true
 |i,n+1,(j,d)::r=>Nat.beq i j&&decide (ed=d)&&tf ed (i+1) n r
 |_,_,_=>false
theorem oq {ed:EqD}:∀{n i:Nat}{plan:List (Nat×EqD)},tf ed i n plan=true→plan=(List.range' i n).map fun i=>(i,ed)
 |0,i,[],_=>rfl
 |n+1,i,(j,d)::r,h=>by
  simp only[tf,Bool.and_eq_true,decide_eq_true_eq] at h
  obtain⟨⟨h1,h2⟩,h3⟩:=h
  rw[List.range'_succ,List.map_cons,←oq h3,←h2,eL h1]
 |0,i,_::_,h=>by simp[tf] at h
 |_+1,i,[],h=>by simp[tf] at h
def ckP (P:Program) (op:Op):POp→Option (List Operand)
 |.pick=>match op with | .pick c a b=>some [c,a,b] | _=>none
 |.build zero parts=>match op with
  |.build t ps=>match kJ P t with
   |some fields=>match qk P fields.toList ps.toList with
    |some l=>when (iZ parts l&&jd P t zero&&mx P fields.toList&&jP P t (kT P t) true) (ps.toList.map (·.2))
    |none=>none
   |none=>match uo P t with
    |some (_,e)=>when (iZ parts (ps.toList.map fun p=>(p.1*kT P e,kT P e))&&jd P t zero&&rQ P e&&jP P t (kT P t) true) (ps.toList.map (·.2))
    |none=>none
  |_=>none
 |.nilCheck=>match op with | .nilCheck x=>some [x] | _=>none
 |.bin o=>match op with | .binOp o' _ x y _=>when (decide (o'=o)) [x,y] | _=>none
 |.eq neg d=>match op with
  |.binOp o t x y _=>match P.underlying t with
   |some d'=>when ((if neg then decide (o=.neq) else decide (o=.eql))&&rQ P t&&uj d d') [x,y]
   |none=>none
  |_=>none
 |.eqAgg neg plan=>match op with
  |.binOp o t x y _=>match kJ P t with
   |some fields=>when ((if neg then decide (o=.neq) else decide (o=.eql)) && !P.stoodInHeld t && !P.eqGuardType P.depth t&&nv P fields.toList plan) [x,y]
   |none=>match uo P t,plan with
    |some (len,e),(_,ed)::_=>match P.underlying e with
     |some d=>when ((if neg then decide (o=.neq) else decide (o=.eql)) && !P.eqGuardType P.depth t&&uj ed d&&jP P e 1 false&&tf ed 0 len plan) [x,y]
     |none=>none
    |_,_=>none
  |_=>none
 |.un o=>match op with | .unOp o' _ x=>when (decide (o'=o)) [x] | _=>none
 |.convInt k=>match op with | .convert s d x=>when ((pG P s).isSome&&decide (pG P d=some k)) [x] | _=>none
 |.convStr=>match op with | .convert s d x=>when (ij P s&&ij P d) [x] | _=>none
 |.intStr=>match op with | .convert s d x=>when ((pG P s).isSome&&ij P d) [x] | _=>none
 |.bytesStr=>match op with
  |.convert s d x=>match iW P s with
   |some e=>when (mE P e&&ij P d) [x]
   |none=>none
  |_=>none
 |.mkIface t=>match op with
  |.makeInterface t' x=>match P.underlying t' with
   |some d=>when (Nat.beq t t'&&(match d with | .interface _=>false | _=>true)) [x]
   |none=>none
  |_=>none
 |.mkFunc f n=>match op with
  |.makeFunc (.func f') first cap=>when (Nat.beq f f'&&Nat.beq n first.size) (first.toList++cap.toList)
  |_=>none
 |.fieldAddr off=>match op with
  |.fieldAddr t x i=>match kJ P t with
   |some fields=>match fields[i]? with
    |some fd=>when (Nat.beq off fd.offset&&rQ P fd.type && !Nat.beq (kT P fd.type) 0) [x]
    |none=>none
   |none=>none
  |_=>none
 |.field agg off n=>match op with
  |.field t x i=>match kJ P t with
   |some fields=>match fields[i]? with
    |some fd=>when (Nat.beq off fd.offset&&jP P fd.type n agg) [x]
    |none=>none
   |none=>none
  |_=>none
 |.indexA len sz=>match op with
  |.indexAddr t x i=>match uo P t with
   |some (l,e)=>when (Nat.beq len l&&Nat.beq sz (kT P e)&&rQ P e) [x,i]
   |none=>none
  |_=>none
 |.indexS sz=>match op with
  |.indexAddr t x i=>match iW P t with
   |some e=>when (Nat.beq sz (kT P e)&&rQ P e) [x,i]
   |none=>none
  |_=>none
 |.idxArr len agg n=>match op with
  |.index t x i=>match uo P t with
   |some (l,e)=>when (Nat.beq len l&&jP P e n agg) [x,i]
   |none=>none
  |_=>none
 |.idxStr=>match op with | .index t x i=>when (ij P t) [x,i] | _=>none
 |.sliceS sz lo hi=>match op with
  |.slice t x l h none=>match iW P t with
   |some e=>when (Nat.beq sz (kT P e)&&rQ P e&&tU l lo&&tU h hi) (x::ig l h)
   |none=>none
  |_=>none
 |.sliceStr lo hi=>match op with
  |.slice t x l h none=>when (ij P t&&tU l lo&&tU h hi) (x::ig l h)
  |_=>none
 |.sliceA len sz lo hi=>match op with
  |.slice t x l h none=>match uo P t with
   |some (n,e)=>when (Nat.beq len n&&Nat.beq sz (kT P e)&&rQ P e&&tU l lo&&tU h hi) (x::ig l h)
   |none=>none
  |_=>none
 |.extract i=>match op with | .extract x j=>when (Nat.beq i j) [x] | _=>none
 |.lenStr=>match kV op with
  |some (.len,[x],[t])=>when (ij P t) [x]
  |_=>none
 |.lenSlice=>match kV op with
  |some (.len,[x],[t])=>when ((iW P t).isSome) [x]
  |_=>none
 |.lenArr n=>match kV op with
  |some (.len,[x],[t])=>match uo P t with
   |some (m,_)=>when (Nat.beq n m) [x]
   |none=>match GL P t with
    |some a=>match uo P a with
     |some (m,_)=>when (Nat.beq n m) [x]
     |none=>none
    |none=>none
  |_=>none
 |.min=>match kV op with | some (.min,xs,_)=>some xs | _=>none
 |.max=>match kV op with | some (.max,xs,_)=>some xs | _=>none
theorem AG {P:Program}{op:Op}{po:POp}{xs:List Operand}(h:ckP P op po=some xs):PR P op po xs:=by
 unfold ckP at h
 split at h
 ·split at h<;>first | (cases h;exact .pick _ _ _) | cases h
 ·split at h
  ·rename_i zero parts _ t ps
   split at h
   ·rename_i fields e1
    split at h
    ·rename_i l e2
     obtain⟨g,e⟩:=dC h;clear h;subst e;have h:=g
     simp only[Bool.and_eq_true] at h
     obtain⟨⟨⟨h1,h2⟩,h3⟩,h4⟩:=h
     obtain⟨b,ht,-⟩:=qP (kj e1) h4
     obtain⟨k1,k2⟩:=mD e2
     refine .build t ps zero parts _ b fields (fun j=>((fields[j]?).map fun f=>kT P f.type).getD 0) ht (eF h2) (fun j f hf=>?_) ((gT h1).trans k1) k2
     obtain⟨d,b',q⟩:=f6 (mQ h3 j f (by simpa using hf))
     exact⟨d,b',_,by rw[hf];exact q⟩
    ·cases h
   ·split at h
    ·rename_i len e e2
     obtain⟨g,e⟩:=dC h;clear h;subst e;have h:=g
     simp only[Bool.and_eq_true] at h
     obtain⟨⟨⟨h1,h2⟩,h3⟩,h4⟩:=h
     obtain⟨b,ht,-⟩:=qP (lT e2) h4
     obtain⟨d,b',q⟩:=f6 h3
     exact .buildA t ps zero parts _ b len e (kT P e) d b' _ ht (eF h2) q (gT h1)
    ·cases h
  ·cases h
 ·split at h<;>first | (cases h;exact .nilCheck _) | cases h
 ·split at h
  ·obtain⟨g,e⟩:=dC h;clear h;subst e;have h:=g
   simp only[decide_eq_true_eq] at h
   subst h
   exact .bin _ _ _ _ _
  ·cases h
 ·split at h
  ·rename_i neg d _ o t x y u
   split at h
   ·rename_i d' e1
    obtain⟨g,e⟩:=dC h;clear h;subst e;have h:=g
    simp only[Bool.and_eq_true] at h
    obtain⟨⟨h1,h2⟩,h3⟩:=h
    obtain⟨b,ht,-⟩:=qP e1 h2
    cases neg with
    |true=>simp only[if_true,decide_eq_true_eq] at h1;subst h1;exact .neq _ _ _ _ _ _ _ _ _ ht (iu h3)
    |false=>simp only[Bool.false_eq_true,if_false,decide_eq_true_eq] at h1;subst h1;exact .eql _ _ _ _ _ _ _ _ _ ht (iu h3)
   ·cases h
  ·cases h
 ·split at h
  ·rename_i neg plan _ o t x y u
   split at h
   ·rename_i fields e1
    obtain⟨g,e⟩:=dC h;clear h;subst e;have h:=g
    simp only[Bool.and_eq_true,Bool.not_eq_true'] at h
    obtain⟨⟨⟨h1,h2⟩,h3⟩,h4⟩:=h
    refine .eqAgg neg o t x y u fields plan ?_ (kj e1) h2 h3 (mC h4)
    cases neg<;>simpa using h1
   ·split at h
    ·rename_i len e j ed r e2
     split at h
     ·rename_i d e3
      obtain⟨g,e'⟩:=dC h;clear h;subst e';have h:=g
      simp only[Bool.and_eq_true,Bool.not_eq_true'] at h
      obtain⟨⟨⟨⟨h1,h2⟩,h3⟩,h4⟩,h5⟩:=h
      obtain⟨b,q,-⟩:=qP e3 h4
      refine .eqArr neg o t x y u len e d b ed _ ?_ (lT e2) q (iu h3) h2 (by rw[List.range_eq_range'];exact oq h5)
      cases neg<;>simpa using h1
     ·cases h
    ·cases h
  ·cases h
 ·split at h
  ·obtain⟨g,e⟩:=dC h;clear h;subst e;have h:=g
   simp only[decide_eq_true_eq] at h
   subst h
   exact .un _ _ _
  ·cases h
 ·split at h
  ·obtain⟨g,e⟩:=dC h;clear h;subst e;have h:=g
   simp only[Bool.and_eq_true,decide_eq_true_eq,Option.isSome_iff_exists] at h
   obtain⟨⟨k,h1⟩,h2⟩:=h
   exact .convInt _ _ _ _ ⟨k,rq h1⟩ (rq h2)
  ·cases h
 ·split at h
  ·obtain⟨g,e⟩:=dC h;clear h;subst e;have h:=g
   simp only[Bool.and_eq_true] at h
   exact .convStr _ _ _ (f3 h.1) (f3 h.2)
  ·cases h
 ·split at h
  ·obtain⟨g,e⟩:=dC h;clear h;subst e;have h:=g
   simp only[Bool.and_eq_true,Option.isSome_iff_exists] at h
   obtain⟨⟨k,h1⟩,h2⟩:=h
   exact .intStr _ _ _ ⟨k,rq h1⟩ (f3 h2)
  ·cases h
 ·split at h
  ·split at h
   ·rename_i e e1
    obtain⟨g,e⟩:=dC h;clear h;subst e;have h:=g
    simp only[Bool.and_eq_true] at h
    exact .bytesStr _ _ _ e (f5 e1) (nL h.1) (f3 h.2)
   ·cases h
  ·cases h
 ·split at h
  ·split at h
   ·rename_i d e1
    obtain⟨g,e⟩:=dC h;clear h;subst e;have h:=g
    simp only[Bool.and_eq_true] at h
    rw[eL h.1]
    refine .mkIface _ _ d e1 (fun ms e=>?_)
    subst e
    cases h.2
   ·cases h
  ·cases h
 ·split at h
  ·obtain⟨g,e⟩:=dC h;clear h;subst e;have h:=g
   simp only[Bool.and_eq_true] at h
   rw[eL h.1,eL h.2]
   exact .mkFunc _ _ _
  ·cases h
 ·split at h
  ·split at h
   ·rename_i fields e1
    split at h
    ·rename_i fd e2
     obtain⟨g,e⟩:=dC h;clear h;subst e;have h:=g
     simp only[Bool.and_eq_true,Bool.not_eq_true'] at h
     obtain⟨⟨h1,h2⟩,h3⟩:=h
     obtain⟨d,b,q⟩:=f6 h2
     rw[eL h1]
     exact .fieldAddr _ _ _ fields fd d _ b _ (kj e1) e2 q (fun e=>by rw[e] at h3;cases h3)
    ·cases h
   ·cases h
  ·cases h
 ·split at h
  ·split at h
   ·rename_i fields e1
    split at h
    ·rename_i fd e2
     obtain⟨g,e⟩:=dC h;clear h;subst e;have h:=g
     simp only[Bool.and_eq_true] at h
     obtain⟨h1,h2⟩:=h
     obtain⟨d,b,q,-⟩:=dP h2
     rw[eL h1]
     exact .field _ _ _ fields fd d _ b _ (kj e1) e2 q
    ·cases h
   ·cases h
  ·cases h
 ·split at h
  ·split at h
   ·rename_i l e e1
    obtain⟨g,e⟩:=dC h;clear h;subst e;have h:=g
    simp only[Bool.and_eq_true] at h
    obtain⟨⟨h1,h2⟩,h3⟩:=h
    obtain⟨d,b,q⟩:=f6 h3
    rw[eL h1,eL h2]
    exact .indexA _ _ _ l e d _ b _ (lT e1) q
   ·cases h
  ·cases h
 ·split at h
  ·split at h
   ·rename_i e e1
    obtain⟨g,e⟩:=dC h;clear h;subst e;have h:=g
    simp only[Bool.and_eq_true] at h
    obtain⟨h1,h2⟩:=h
    obtain⟨d,b,q⟩:=f6 h2
    rw[eL h1]
    exact .indexS _ _ _ e d _ b _ (f5 e1) q
   ·cases h
  ·cases h
 ·split at h
  ·split at h
   ·rename_i l e e1
    obtain⟨g,e⟩:=dC h;clear h;subst e;have h:=g
    simp only[Bool.and_eq_true] at h
    obtain⟨h1,h2⟩:=h
    obtain⟨d,b,q,-⟩:=dP h2
    rw[eL h1]
    exact .idxArr _ _ _ l e d _ b _ (lT e1) q
   ·cases h
  ·cases h
 ·split at h
  ·obtain⟨g,e⟩:=dC h;clear h;subst e;have h:=g
   exact .idxStr _ _ _ (f3 h)
  ·cases h
 ·split at h
  ·split at h
   ·rename_i e e1
    obtain⟨g,e⟩:=dC h;clear h;subst e;have h:=g
    simp only[Bool.and_eq_true,tU,beq_iff_eq] at h
    obtain⟨⟨⟨h1,h2⟩,h3⟩,h4⟩:=h
    obtain⟨d,b,q⟩:=f6 h2
    rw[eL h1,←h3,←h4]
    exact .sliceS _ _ _ _ e d _ b _ (f5 e1) q
   ·cases h
  ·cases h
 ·split at h
  ·obtain⟨g,e⟩:=dC h;clear h;subst e;have h:=g
   simp only[Bool.and_eq_true,tU,beq_iff_eq] at h
   obtain⟨⟨h1,h3⟩,h4⟩:=h
   rw[←h3,←h4]
   exact .sliceStr _ _ _ _ (f3 h1)
  ·cases h
 ·split at h
  ·split at h
   ·rename_i n e e1
    obtain⟨g,e⟩:=dC h;clear h;subst e;have h:=g
    simp only[Bool.and_eq_true,tU,beq_iff_eq] at h
    obtain⟨⟨⟨⟨h0,h1⟩,h2⟩,h3⟩,h4⟩:=h
    obtain⟨d,b,q⟩:=f6 h2
    rw[eL h0,eL h1,←h3,←h4]
    exact .sliceA _ _ _ _ n e d _ b _ (lT e1) q
   ·cases h
  ·cases h
 ·split at h
  ·obtain⟨g,e⟩:=dC h;clear h;subst e;have h:=g
   rw[eL h]
   exact .extract _ _
  ·cases h
 ·split at h
  ·rename_i x t e1
   obtain⟨g,e⟩:=dC h;clear h;subst e;have h:=g
   rw[i4 e1]
   exact .lenStr _ _ (f3 h)
  ·cases h
 ·split at h
  ·rename_i x t e1
   obtain⟨g,e⟩:=dC h;clear h;subst e;have h:=g
   obtain⟨e,he⟩:=Option.isSome_iff_exists.1 h
   rw[i4 e1]
   exact .lenSlice _ _ e (f5 he)
  ·cases h
 ·split at h
  ·rename_i x t e1
   rw[i4 e1]
   split at h
   ·rename_i m e e2
    obtain⟨g,e⟩:=dC h;clear h;subst e;have h:=g
    rw[eL h]
    exact .lenArr _ _ _ e (lT e2)
   ·split at h
    ·rename_i a e2
     split at h
     ·rename_i m e e3
      obtain⟨g,e⟩:=dC h;clear h;subst e;have h:=g
      rw[eL h]
      exact .lenPtr _ _ a _ e (GN e2) (lT e3)
     ·cases h
    ·cases h
  ·cases h
 ·split at h
  ·rename_i ys ts e1
   cases h
   rw[i4 e1]
   exact .min ⟨xs⟩ ⟨ts⟩
  ·cases h
 ·split at h
  ·rename_i ys ts e1
   cases h
   rw[i4 e1]
   exact .max ⟨xs⟩ ⟨ts⟩
  ·cases h
end Go.Idl
namespace Go.Idl
def yD:Op→Option (Operand×List Operand)
 |.call ⟨.value g,xs,_⟩=>some (g,xs.toList)
 |_=>none
theorem yr {op:Op}{g:Operand}{xs:List Operand}(h:yD op=some (g,xs)):∃ts,op=.call ⟨.value g,⟨xs⟩,ts⟩:=by
 unfold yD at h
 split at h
 ·rename_i g' xs' ts
  obtain⟨xs'⟩:=xs'
  cases h
  exact⟨ts,rfl⟩
 ·cases h
variable (P:Program) (rows:Nat→Option (List IV))
def ckK (op:Op):IK→Bool
 |.mv x' _ _=>match op with
  |.move x=>dZ rows x x'
  |.assign x=>dZ rows x x'
  |_=>false
 |.p po as=>match ckP P op po with
  |some xs=>jH rows xs as
  |none=>false
 |.same x'=>match op with
  |.convert s t x=>Nat.beq s t&&(match iW P t with | some e=>mE P e | none=>false)&&dZ rows x x'
  |_=>false
 |.load agg n a' _=>match op with
  |.load t a=>jP P t n agg&&dZ rows a a'
  |_=>false
 |.store n a' x' _=>match op with
  |.store t a x=>jP P t n (og P t)&&dZ rows a a'&&dZ rows x x'
  |_=>false
 |.allocL _ zero _=>match op with | .alloc t=>jd P t zero | _=>false
 |.allocG zero _=>match op with | .alloc t=>jd P t zero | _=>false
 |.boxL _ _ x'=>match op with | .box _ x=>dZ rows x x' | _=>false
 |.boxG _ x'=>match op with | .box _ x=>dZ rows x x' | _=>false
 |.buildSlice n len zero parts as=>match op with
  |.buildSlice t len' ps=>match iW P t with
   |some e=>Nat.beq len len'&&jP P e n (og P e)&&jd P e zero&&iZ parts (ps.toList.map fun p=>(p.1*n,n))&&Nat.ble (len*n) 16777216&&jH rows (ps.toList.map (·.2)) as
   |none=>false
  |_=>false
 |.strBytes x'=>match op with
  |.convert s d x=>match iW P d with
   |some e=>ij P s&&mE P e&&dZ rows x x'
   |none=>false
  |_=>false
 |.makeI n bytes zero l' c'=>match op with
  |.makeSlice t l c=>match iW P t with
   |some e=>jP P e n (og P e)&&Nat.beq bytes (bytesOf P e)&&jd P e zero&&dZ rows l l'&&dZ rows c c'
   |none=>false
  |_=>false
 |.makeB n bytes zero l' c'=>match op with
  |.makeSlice t l c=>match iW P t with
   |some e=>jP P e n (og P e)&&Nat.beq bytes (bytesOf P e)&&jd P e zero&&dZ rows l l'&&dZ rows c c'
   |none=>false
  |_=>false
 |.append n bytes s' x'=>match kV op with
  |some (.append,[s,x],[t,u])=>match iW P t with
   |some e=>jP P e n (og P e)&&Nat.beq bytes (bytesOf P e) && !Nat.beq bytes 0 && !Nat.beq n 0&&jd P e (zeroIV e)&&(ij P u||(iW P u).isSome)&&dZ rows s s'&&dZ rows x x'
   |none=>false
  |_=>false
 |.copy n d' s'=>match kV op with
  |some (.copy,[d,s],[t,_])=>match iW P t with
   |some e=>jP P e n (og P e)&&dZ rows d d'&&dZ rows s s'
   |none=>false
  |_=>false
 |.callF f as _=>match yD op with
  |some (.func g,xs)=>Nat.beq f g&&jH rows xs as
  |_=>false
 |.callV g' as _=>match yD op with
  |some (g,xs)=>dZ rows g g'&&jH rows xs as
  |_=>false
 |.mkMap=>match op with | .makeMap _ none=>true | _=>false
 |.lookup ed zero ok m' x'=>match op with
  |.lookup t m x ok'=>match B3 P t with
   |some (k,e)=>match P.underlying k,P.info? e with
    |some d,some i=>match i.zero with
     |some z=>(ok==ok')&&CP ed d&&ckV 20000 zero z&&dZ rows m m'&&dZ rows x x'
     |none=>false
    |_,_=>false
   |none=>false
  |_=>false
 |.mapUpd ed m' x' v'=>match op with
  |.mapUpdate t m x v=>match B3 P t with
   |some (k,_)=>match P.underlying k with
    |some d=>CP ed d&&dZ rows m m'&&dZ rows x x'&&dZ rows v v'
    |none=>false
   |none=>false
  |_=>false
 |.mapLen m'=>match kV op with
  |some (.len,[m],[t])=>(B3 P t).isSome&&dZ rows m m'
  |_=>false
 |.rangeStr _ x'=>match op with
  |.range t x=>ij P t&&dZ rows x x'
  |_=>false
 |.nextStr a'=>match op with
  |.next a true=>dZ rows a a'
  |_=>false
where
 zeroIV (e:TypeId):List IV:=match P.info? e with
  |some i=>match i.zero with
   |some v=>v.cells.toList.map ofV
   |none=>[]
  |none=>[]
 ofV:Value→IV
  |.bool b=>.bool b
  |.int k n=>.int k n
  |.float k n=>.float k n
  |.complex k a b=>.cplx k a b
  |.string t=>.str t.data.toList
  |.pointer _=>.nilPtr
  |.slice _ _ _=>.nilSlice
  |.map _=>.nilMap
  |.nilIface=>.nilIface
  |.nilFunc=>.nilFunc
  |_=>.undef
variable {P rows}
theorem zL {op:Op}{k:IK}(h:ckK P rows op k=true):KR P rows op k:=by
 unfold ckK at h
 split at h
 ·split at h
  ·exact .move _ _ _ _ (aI h)
  ·exact .assign _ _ _ _ (aI h)
  ·cases h
 ·split at h
  ·rename_i e;exact .p _ _ _ _ (AG e) (gx h)
  ·cases h
 ·split at h
  ·simp only[Bool.and_eq_true] at h
   obtain⟨⟨h1,h2⟩,h3⟩:=h
   rw[eL h1]
   split at h2
   ·rename_i e he;exact .same _ e _ _ (f5 he) (nL h2) (aI h3)
   ·cases h2
  ·cases h
 ·split at h
  ·simp only[Bool.and_eq_true] at h
   obtain⟨d,b,q,-⟩:=dP h.1
   exact .load _ d _ b _ _ _ _ q (aI h.2)
  ·cases h
 ·split at h
  ·simp only[Bool.and_eq_true] at h
   obtain⟨d,b,q,-⟩:=dP h.1.1
   exact .store _ d _ b _ _ _ _ _ _ q (aI h.1.2) (aI h.2)
  ·cases h
 ·split at h<;>first | exact .allocL _ _ _ _ (eF h) | cases h
 ·split at h<;>first | exact .allocG _ _ _ (eF h) | cases h
 ·split at h<;>first | exact .boxL _ _ _ _ _ (aI h) | cases h
 ·split at h<;>first | exact .boxG _ _ _ _ (aI h) | cases h
 ·split at h
  ·split at h
   ·rename_i e he
    simp only[Bool.and_eq_true] at h
    obtain⟨⟨⟨⟨⟨h1,h2⟩,h3⟩,h4⟩,h5⟩,h6⟩:=h
    obtain⟨d,b,q,-⟩:=dP h2
    have hl:=Nat.le_of_ble_eq_true h5
    rw[eL h1] at hl ⊢
    exact .buildSlice _ e _ _ _ _ _ d _ b _ (f5 he) q (eF h3) (gT h4) (by simpa using hl) (gx h6)
   ·cases h
  ·cases h
 ·split at h
  ·split at h
   ·rename_i e he
    simp only[Bool.and_eq_true] at h
    exact .strBytes _ _ e _ _ (f3 h.1.1) (f5 he) (nL h.1.2) (aI h.2)
   ·cases h
  ·cases h
 ·split at h
  ·split at h
   ·rename_i e he
    simp only[Bool.and_eq_true] at h
    obtain⟨⟨⟨⟨h1,h2⟩,h3⟩,h4⟩,h5⟩:=h
    obtain⟨d,b,q,i,hi,hb⟩:=dP h1
    have hb2:bytesOf P e=b:=by simp[bytesOf,hi,hb]
    rw[eL h2,hb2]
    exact .makeI _ e _ _ _ _ _ d _ b _ (f5 he) q (eF h3) (aI h4) (aI h5)
   ·cases h
  ·cases h
 ·split at h
  ·split at h
   ·rename_i e he
    simp only[Bool.and_eq_true] at h
    obtain⟨⟨⟨⟨h1,h2⟩,h3⟩,h4⟩,h5⟩:=h
    obtain⟨d,b,q,i,hi,hb⟩:=dP h1
    have hb2:bytesOf P e=b:=by simp[bytesOf,hi,hb]
    rw[eL h2,hb2]
    exact .makeB _ e _ _ _ _ _ d _ b _ (f5 he) q (eF h3) (aI h4) (aI h5)
   ·cases h
  ·cases h
 ·split at h
  ·rename_i s x t u e1
   rw[i4 e1]
   split at h
   ·rename_i e he
    simp only[Bool.and_eq_true,Bool.not_eq_true',Bool.or_eq_true] at h
    obtain⟨⟨⟨⟨⟨⟨⟨h1,h2⟩,h3⟩,h4⟩,h5⟩,h6⟩,h7⟩,h8⟩:=h
    obtain⟨d,b,q,i,hi,hb⟩:=dP h1
    have hb2:bytesOf P e=b:=by simp[bytesOf,hi,hb]
    have hbb:=eL h2
    rw[hb2] at hbb
    subst hbb
    refine .append _ _ e _ _ _ _ _ d _ _ _ (f5 he) ?_ q (fun q=>by rw[q] at h3;cases h3) (fun q=>by rw[q] at h4;cases h4) (eF h5) (aI h7) (aI h8)
    rcases h6 with h6 | h6
    ·exact .inl (f3 h6)
    ·obtain⟨e',he'⟩:=Option.isSome_iff_exists.1 h6
     exact .inr ⟨e',f5 he'⟩
   ·cases h
  ·cases h
 ·split at h
  ·rename_i d s t u e1
   rw[i4 e1]
   split at h
   ·rename_i e he
    simp only[Bool.and_eq_true] at h
    obtain⟨td,b,q,-⟩:=dP h.1.1
    exact .copy _ _ e _ _ _ _ td _ b _ (f5 he) q (aI h.1.2) (aI h.2)
   ·cases h
  ·cases h
 ·split at h
  ·rename_i g xs e1
   obtain⟨ts,rfl⟩:=yr e1
   simp only[Bool.and_eq_true] at h
   rw[eL h.1]
   exact .callF _ _ _ _ _ (gx h.2)
  ·cases h
 ·split at h
  ·rename_i g xs e1
   obtain⟨ts,rfl⟩:=yr e1
   simp only[Bool.and_eq_true] at h
   exact .callV _ _ _ _ _ _ (aI h.1) (gx h.2)
  ·cases h
 ·split at h<;>first | exact .mkMap _ | cases h
 ·split at h
  ·split at h
   ·rename_i k e he
    split at h
    ·rename_i d i e1 e2
     split at h
     ·rename_i z ez
      simp only[Bool.and_eq_true,beq_iff_eq] at h
      obtain⟨⟨⟨⟨h1,h2⟩,h3⟩,h4⟩,h5⟩:=h
      subst h1
      exact .lookup _ k e _ _ _ _ _ _ d _ (xO he) e1 (ot h2) ⟨i,z,e2,ez,kn _ _ _ h3⟩ (aI h4) (aI h5)
     ·cases h
    ·cases h
   ·cases h
  ·cases h
 ·split at h
  ·split at h
   ·rename_i k e he
    split at h
    ·rename_i d e1
     simp only[Bool.and_eq_true] at h
     obtain⟨⟨⟨h2,h3⟩,h4⟩,h5⟩:=h
     exact .mapUpd _ k e _ _ _ _ _ _ d _ (xO he) e1 (ot h2) (aI h3) (aI h4) (aI h5)
    ·cases h
   ·cases h
  ·cases h
 ·split at h
  ·rename_i m t e1
   rw[i4 e1]
   simp only[Bool.and_eq_true] at h
   obtain⟨⟨k,e⟩,he⟩:=Option.isSome_iff_exists.1 h.1
   exact .mapLen _ k e _ _ (xO he) (aI h.2)
  ·cases h
 ·split at h
  ·simp only[Bool.and_eq_true] at h
   exact .rangeStr _ _ _ _ (f3 h.1) (aI h.2)
  ·cases h
 ·split at h
  ·exact .nextStr _ _ (aI h)
  ·cases h
def tO:Option Nat→Option Nat→Bool
 |none,none=>true
 |some i,some j=>Nat.beq i j
 |_,_=>false
theorem wm {a b:Option Nat}(h:tO a b=true):a=b:=by
 unfold tO at h
 split at h
 ·rfl
 ·rw[eL h]
 ·cases h
variable (P rows)
def zv (ops:Array Oper):Option (Nat×Bool)→Option (Nat×Bool)→Bool
 |none,none=>true
 |some (j,want),some (s,want')=>(want==want')&&tO ((ops[j]?).bind (·.dst)) (some s)
 |_,_=>false
def G7 (N:Nat) (ops:Array Oper) (o:Oper) (i:IOp):Bool :=
 tO o.dst i.dst&&(match i.dst with | some d=>Nat.blt d N | none=>true)&&zv ops o.guard i.guard&&ckK P rows o.op i.k
def qj (N:Nat) (ops:Array Oper):List Oper→List IOp→Bool
 |[],[]=>true
 |o::os,i::is=>G7 P rows N ops o i&&qj N ops os is
 |_,_=>false
def yO (N:Nat):List Nat→Bool
 |[]=>true
 |p::r=>Nat.blt p N&&yO N r
def nP:List Nat→List Nat→Bool
 |[],[]=>true
 |a::r,b::s=>Nat.beq a b&&nP r s
 |_,_=>false
variable (rnd:FuncId→Nat→Option IRnd)
def dQ (N:Nat):Code→ICode→Bool
 |.skip,x=>match x with | .skip=>true | _=>false
 |.label _,x=>match x with | .skip=>true | _=>false
 |.region _ ops false,x=>match x with | .ops is=>qj P rows N ops ops.toList is | _=>false
 |.region _ ops true,x=>match x with | .draw is pre=>qj P rows N ops ops.toList is&&qw ops is pre | _=>false
 |.seq a b,x=>match x with | .seq y z=>dQ N a y&&dQ N b z | _=>false
 |.cond c a b,x=>match x with | .cond c' y z=>dZ rows c c'&&dQ N a y&&dQ N b z | _=>false
 |.block id a,x=>match x with | .block id' y=>Nat.beq id id'&&dQ N a y | _=>false
 |.loop a,x=>match x with | .loop _ y=>dQ N a y | _=>false
 |.exit id,x=>match x with | .exit id'=>Nat.beq id id' | _=>false
 |.ret,x=>match x with | .ret=>true | _=>false
 |.scope a,x=>dQ N a x
 |.rangeFunc g ps as body,x=>match x with
  |.rangeF g' fn site=>match rnd fn site with
   |some r=>dZ rows g g'&&nP ps.toList r.ps&&yO N r.ps&&dQ N as r.assign&&dQ N body r.body
   |none=>false
  |_=>false
 |_,_=>false
variable {P rows rnd}
theorem yg {N:Nat}{ops:Array Oper}{o:Oper}{i:IOp}(h:G7 P rows N ops o i=true):OpR P rows N ops o i:=by
 simp only[G7,Bool.and_eq_true] at h
 obtain⟨⟨⟨h1,h2⟩,h3⟩,h4⟩:=h
 refine⟨wm h1,fun d hd=>?_,zL h4,?_⟩
 ·rw[hd] at h2;simpa[Nat.blt_eq] using h2
 ·unfold zv at h3
  split at h3
  ·rename_i e1 e2;rw[e1,e2];trivial
  ·rename_i j w s w' e1 e2
   rw[e1,e2]
   simp only[Bool.and_eq_true,beq_iff_eq] at h3
   exact⟨h3.1,wm h3.2⟩
  ·cases h3
theorem jY {N:Nat}{ops:Array Oper}:∀{os:List Oper}{is:List IOp},qj P rows N ops os is=true→OpsR P rows N ops os is
 |[],[],_=>.nil
 |o::os,i::is,h=>by
  simp only[qj,Bool.and_eq_true] at h
  exact .cons (yg h.1) (jY h.2)
 |[],_::_,h=>by simp[qj] at h
 |_::_,[],h=>by simp[qj] at h
theorem yW {N:Nat}:∀{l:List Nat},yO N l=true→∀p∈l,p<N
 |[],_,p,h=>by cases h
 |q::l,h,p,hp=>by
  simp only[yO,Bool.and_eq_true,Nat.blt_eq] at h
  rcases List.mem_cons.1 hp with rfl | hp
  ·exact h.1
  ·exact yW h.2 p hp
theorem vz:∀{a b:List Nat},nP a b=true→a=b
 |[],[],_=>rfl
 |a::r,b::s,h=>by
  simp only[nP,Bool.and_eq_true] at h
  rw[eL h.1,vz h.2]
 |[],_::_,h=>by simp[nP] at h
 |_::_,[],h=>by simp[nP] at h
theorem dF {T:Tab}{N:Nat}:∀(c:Code) (x:ICode),dQ P rows T.rnd N c x=true→CR P rows N T (fun ops is pre=>qw ops is pre=true) c x
 |.skip,x,h=>by simp only[dQ] at h;split at h<;>first | exact .skip | cases h
 |.label l,x,h=>by simp only[dQ] at h;split at h<;>first | exact .label _ | cases h
 |.region id ops false,x,h=>by simp only[dQ] at h;split at h<;>first | exact .ops _ _ _ (jY h) | cases h
 |.region id ops true,x,h=>by
  simp only[dQ] at h
  split at h
  ·simp only[Bool.and_eq_true] at h;exact .draw _ _ _ _ (jY h.1) h.2
  ·cases h
 |.seq a b,x,h=>by
  simp only[dQ] at h
  split at h
  ·simp only[Bool.and_eq_true] at h;exact .seq (dF a _ h.1) (dF b _ h.2)
  ·cases h
 |.cond c a b,x,h=>by
  simp only[dQ] at h
  split at h
  ·simp only[Bool.and_eq_true] at h;exact .cond (aI h.1.1) (dF a _ h.1.2) (dF b _ h.2)
  ·cases h
 |.block id a,x,h=>by
  simp only[dQ] at h
  split at h
  ·simp only[Bool.and_eq_true] at h;rw[eL h.1];exact .block (dF a _ h.2)
  ·cases h
 |.loop a,x,h=>by
  simp only[dQ] at h
  split at h
  ·exact .loop (dF a _ h)
  ·cases h
 |.exit id,x,h=>by
  simp only[dQ] at h
  split at h
  ·rw[eL h];exact .exit _
  ·cases h
 |.ret,x,h=>by simp only[dQ] at h;split at h<;>first | exact .ret | cases h
 |.scope a,x,h=>.scope (dF a x (by simpa only[dQ] using h))
 |.rangeFunc g ps as body,x,h=>by
  simp only[dQ] at h
  split at h
  ·split at h
   ·rename_i r hr
    simp only[Bool.and_eq_true] at h
    obtain⟨⟨⟨⟨h1,h2⟩,h3⟩,h4⟩,h5⟩:=h
    exact .rangeF (aI h1) hr (vz h2) (yW h3) (dF as _ h4) (dF body _ h5)
   ·cases h
  ·cases h
 |.goto _,x,h=>by simp[dQ] at h
 |.refuse _,x,h=>by simp[dQ] at h
variable (P)
def Fq:ResultVar→RV→Bool
 |.tmp i,.t j=>Nat.beq i j
 |.cell i t,.cell j agg n=>Nat.beq i j&&jP P t n agg
 |_,_=>false
def nH:List ResultVar→List RV→Bool
 |[],[]=>true
 |x::xs,y::ys=>Fq P x y&&nH xs ys
 |_,_=>false
variable (rows rnd)
def I4 (f:FuncId) (ifn:IFn):Bool :=
 match P.funcs[f]? with
 |some fn=>match fn.body with
  |some c=>!(fn.name == "runtime.NumGoroutine")&&Nat.ble ifn.nargs fn.ntmps&&nH P fn.results.toList ifn.rets&&dQ P rows rnd fn.ntmps c ifn.body
  |none=>false
 |none=>false
variable {P rows rnd}
theorem my:∀{xs:List ResultVar}{ys:List RV},nH P xs ys=true→RetsR P xs ys
 |[],[],_=>.nil
 |x::xs,y::ys,h=>by
  simp only[nH,Bool.and_eq_true] at h
  refine .cons ?_ (my h.2)
  have h:=h.1
  unfold Fq at h
  split at h
  ·rw[eL h];exact .tmp _
  ·simp only[Bool.and_eq_true] at h
   obtain⟨d,b,q,-⟩:=dP h.2
   rw[eL h.1]
   exact .cell _ _ d _ b _ q
  ·cases h
 |[],_::_,h=>by simp[nH] at h
 |_::_,[],h=>by simp[nH] at h
theorem xP {T:Tab}{f:FuncId}{ifn:IFn}(h:I4 P rows T.rnd f ifn=true):∃fn c,FnR ⟨P,rows,T,fun ops is pre=>qw ops is pre=true⟩ f ifn fn c:=by
 unfold I4 at h
 split at h
 ·rename_i fn e1
  split at h
  ·rename_i c e2
   simp only[Bool.and_eq_true,Bool.not_eq_true'] at h
   obtain⟨⟨⟨h1,h2⟩,h3⟩,h4⟩:=h
   exact⟨fn,c,e1,e2,h1,dF c _ h4,Nat.le_of_ble_eq_true h2,my h3⟩
  ·cases h
 ·cases h
theorem FT.all_find {α:Type}{p:Nat→α→Bool}:∀{t:FT α},t.all p=true→∀{i v},t.find i=some v→p i v=true
 |.nil,_,i,v,h=>by simp[FT.find] at h
 |.node k v l r,ha,i,x,h=>by
  simp only[FT.all,Bool.and_eq_true] at ha
  simp only[FT.find] at h
  split at h
  ·rename_i e
   cases h
   rw[eL e];exact ha.1.1
  ·split at h
   ·exact FT.all_find ha.1.2 h
   ·exact FT.all_find ha.2 h
end Go.Idl
namespace Go.Idl
open Classical
def iP (c c':aQ):Prop:=∀a b m r,c a b m=some r→c' a b m=some r
def nq (l l':hZ):Prop:=∀h b st r,l h b st=some r→l' h b st=some r
theorem lW {c c':aQ}(hc:iP c c') {st:St}{f:Callee}{as:List IV}{hs:List Arg}{r:IV×Cap×St}(h:bN c st f as hs=some r):bN c' st f as hs=some r:=by
 unfold bN at h ⊢
 split at h
 ·rename_i q hh e1 e2
  split at h
  ·cases h
  ·rename_i m em
   split at h
   ·cases h
   ·rename_i v m' ec
    rw[hc _ _ _ _ ec]
    exact h
 ·cases h
theorem DW {c c':aQ}(hc:iP c c') {st:St}{k:IK}{r:IV×Cap×St}(h:k.run c st=some r):k.run c' st=some r:=by
 cases k with
 |callF f as hs =>
  simp only[IK.run] at h ⊢
  split at h
  ·exact lW hc h
  ·cases h
 |callV g as hs =>
  simp only[IK.run] at h ⊢
  split at h
  ·split at h
   ·exact lW hc h
   ·exact lW hc h
   ·cases h
  ·cases h
 |_=>exact h
theorem sW {c c':aQ}(hc:iP c c') {st:St}{o:IOp}{r:St}(h:o.run0 c st=some r):o.run0 c' st=some r:=by
 unfold IOp.run0 at h ⊢
 split at h
 ·split at h
  ·rename_i e;rw[DW hc e];exact h
  ·cases h
 ·exact h
 ·cases h
theorem yG {c c':aQ}(hc:iP c c') {st:St}{o:IOp}{r:St}(h:o.run c st=some r):o.run c' st=some r:=by
 unfold IOp.run at h ⊢
 split at h
 ·split at h
  ·exact sW hc h
  ·cases h
 ·exact sW hc h
theorem mn {c c':aQ}(hc:iP c c'):∀{l:List IOp}{st r:St},aD c l st=some r→aD c' l st=some r
 |[],_,_,h=>h
 |o::l,st,r,h=>by
  simp only[aD] at h ⊢
  split at h
  ·rename_i e;rw[yG hc e];exact mn hc h
  ·cases h
theorem cG {c c':aQ}(hc:iP c c') {l l':hZ}(hl:nq l l'):∀{x:ICode}{st:St}{r:Ex×St},x.run c l st=some r→x.run c' l' st=some r
 |.skip,_,_,h=>h
 |.ops is,st,r,h=>by
  simp only[ICode.run] at h ⊢
  split at h
  ·rename_i e;rw[mn hc e];exact h
  ·cases h
 |.draw is _,st,r,h=>by
  simp only[ICode.run] at h ⊢
  split at h
  ·split at h
   ·rename_i e;rw[mn hc e];exact h
   ·cases h
  ·cases h
 |.seq a b,st,r,h=>by
  simp only[ICode.run] at h ⊢
  split at h
  ·rename_i e;rw[cG hc hl e];exact cG hc hl h
  ·rename_i hn;rw[cG hc hl h]
   split
   ·rename_i e;cases e;exact (hn _ h).elim
   ·rfl
 |.cond d a b,st,r,h=>by
  simp only[ICode.run] at h ⊢
  split at h
  ·exact cG hc hl h
  ·exact cG hc hl h
  ·cases h
 |.block id b,st,r,h=>by
  simp only[ICode.run] at h ⊢
  split at h
  ·rename_i e;rw[cG hc hl e];exact h
  ·rename_i hn;rw[cG hc hl h]
   split
   ·rename_i e;cases e;exact (hn _ _ h).elim
   ·rfl
 |.loop hd b,st,r,h=>hl _ _ _ _ (by simpa only[ICode.run] using h)
 |.rangeF g fn site,st,r,h=>by
  simp only[ICode.run] at h ⊢
  split at h
  ·split at h
   ·split at h
    ·rename_i e;rw[hc _ _ _ _ e];exact h
    ·cases h
   ·cases h
  ·cases h
 |.exit _,_,_,h=>h
 |.ret,_,_,h=>h
theorem qQ {c c':aQ}(hc:iP c c') {l l':hZ}(hl:nq l l') {fn:IFn}{as:List IV}{m:IM}{r:IV×IM}(h:fn.call c l as m=some r):fn.call c' l' as m=some r:=by
 unfold IFn.call at h ⊢
 split at h
 ·cases h
 ·rename_i hn
  rw[if_neg hn]
  split at h
  ·rename_i e;rw[cG hc hl e];exact h
  ·cases h
theorem pA {c c':aQ}(hc:iP c c') {l l':hZ}(hl:nq l l') {rn:IRnd}{id:Nat}{tm:Env}{as:List IV}{m:IM}{r:IV×IM}(h:rn.call c l id tm as m=some r):rn.call c' l' id tm as m=some r:=by
 unfold IRnd.call at h ⊢
 split at h
 ·cases h
 ·rename_i hn
  rw[if_neg hn]
  split at h
  ·rename_i e
   rw[cG hc hl e]
   simp only
   split at h
   ·split at h
    ·split at h
     ·rename_i e2;rw[cG hc hl e2];exact h
     ·cases h
    ·cases h
   ·cases h
  ·cases h
variable (tab:Tab) (ae:qp)
theorem wq:∀k,iP (sem tab ae k).call (sem tab ae (k+1)).call∧nq (sem tab ae k).loop (sem tab ae (k+1)).loop
 |0=>⟨fun _ _ _ _ h=>by simp[sem] at h,fun _ _ _ _ h=>by simp[sem] at h⟩
 |k+1=>by
  obtain⟨h1,h2⟩:=wq k
  refine⟨fun c as m r h=>?_,fun hd b st r h=>?_⟩
  ·rw[sem] at h ⊢
   simp only at h ⊢
   split at h
   ·split at h
    ·exact h
    ·split at h
     ·exact qQ h1 h2 h
     ·cases h
   ·split at h
    ·split at h
     ·exact pA h1 h2 h
     ·cases h
    ·cases h
  ·rw[sem] at h ⊢
   simp only at h ⊢
   split at h
   ·cases h
   ·split at h
    ·rename_i e;rw[cG h1 h2 e];exact h2 _ _ _ _ h
    ·rename_i hn;rw[cG h1 h2 h]
     split
     ·rename_i e;cases e;exact (hn _ h).elim
     ·rfl
theorem fh {k k':Nat}(h:k≤k'):iP (sem tab ae k).call (sem tab ae k').call∧nq (sem tab ae k).loop (sem tab ae k').loop:=by
 induction h with
 |refl=>exact⟨fun _ _ _ _ h=>h,fun _ _ _ _ h=>h⟩
 |step _ ih =>
  obtain⟨h1,h2⟩:=wq tab ae _
  exact⟨fun _ _ _ _ h=>h1 _ _ _ _ (ih.1 _ _ _ _ h),fun _ _ _ _ h=>h2 _ _ _ _ (ih.2 _ _ _ _ h)⟩
noncomputable def dM:aQ:=fun c as m=>if h:∃r,∃k,(sem tab ae k).call c as m=some r then some h.choose else none
noncomputable def eT:hZ:=fun hd b st=>if h:∃r,∃k,(sem tab ae k).loop hd b st=some r then some h.choose else none
variable {tab ae}
theorem gi {c:Callee}{as:List IV}{m:IM}{r:IV×IM}:dM tab ae c as m=some r↔∃k,(sem tab ae k).call c as m=some r:=by
 have uniq:∀{r r' k k'},(sem tab ae k).call c as m=some r→(sem tab ae k').call c as m=some r'→r=r':=by
  intro r r' k k' h h'
  have h1:=(fh tab ae (Nat.le_max_left k k')).1 _ _ _ _ h
  have h2:=(fh tab ae (Nat.le_max_right k k')).1 _ _ _ _ h'
  rw[h1] at h2
  exact Option.some.inj h2
 unfold dM
 constructor
 ·intro h
  split at h
  ·rename_i hx
   cases h
   exact hx.choose_spec
  ·cases h
 ·rintro ⟨k,h⟩
  have hx:∃r,∃k,(sem tab ae k).call c as m=some r:=⟨r,k,h⟩
  rw[dif_pos hx]
  obtain⟨k',h'⟩:=hx.choose_spec
  rw[uniq h' h]
theorem kO {hd:Head}{b:ICode}{st:St}{r:Ex×St}:eT tab ae hd b st=some r↔∃k,(sem tab ae k).loop hd b st=some r:=by
 have uniq:∀{r r' k k'},(sem tab ae k).loop hd b st=some r→(sem tab ae k').loop hd b st=some r'→r=r':=by
  intro r r' k k' h h'
  have h1:=(fh tab ae (Nat.le_max_left k k')).2 _ _ _ _ h
  have h2:=(fh tab ae (Nat.le_max_right k k')).2 _ _ _ _ h'
  rw[h1] at h2
  exact Option.some.inj h2
 unfold eT
 constructor
 ·intro h
  split at h
  ·rename_i hx
   cases h
   exact hx.choose_spec
  ·cases h
 ·rintro ⟨k,h⟩
  have hx:∃r,∃k,(sem tab ae k).loop hd b st=some r:=⟨r,k,h⟩
  rw[dif_pos hx]
  obtain⟨k',h'⟩:=hx.choose_spec
  rw[uniq h' h]
theorem mq (k:Nat):iP (sem tab ae k).call (dM tab ae):=fun _ _ _ _ h=>gi.2 ⟨k,h⟩
theorem jX (k:Nat):nq (sem tab ae k).loop (eT tab ae):=fun _ _ _ _ h=>kO.2 ⟨k,h⟩
theorem nQ {st:St}{f:Callee}{as:List IV}{hs:List Arg}{r:IV×Cap×St}(h:bN (dM tab ae) st f as hs=some r):∃k,bN (sem tab ae k).call st f as hs=some r:=by
 unfold bN at h
 split at h
 ·rename_i q hh e1 e2
  split at h
  ·cases h
  ·rename_i m em
   split at h
   ·cases h
   ·rename_i v m' ec
    obtain⟨k,hk⟩:=gi.1 ec
    refine⟨k,?_⟩
    simp only[bN,e1,e2,em,hk]
    exact h
 ·cases h
theorem HY {st:St}{k:IK}{r:IV×Cap×St}(h:k.run (dM tab ae) st=some r):∃n,k.run (sem tab ae n).call st=some r:=by
 cases k with
 |callF f as hs =>
  simp only[IK.run] at h ⊢
  split at h
  ·exact nQ h
  ·cases h
 |callV g as hs =>
  simp only[IK.run] at h ⊢
  split at h
  ·split at h
   ·exact nQ h
   ·exact nQ h
   ·cases h
  ·cases h
 |_=>exact⟨0,h⟩
theorem vK {st:St}{o:IOp}{r:St}(h:o.run0 (dM tab ae) st=some r):∃n,o.run0 (sem tab ae n).call st=some r:=by
 unfold IOp.run0 at h ⊢
 split at h
 ·split at h
  ·rename_i e
   obtain⟨n,hn⟩:=HY e
   exact⟨n,by rw[hn];exact h⟩
  ·cases h
 ·exact⟨0,h⟩
 ·cases h
theorem Jd {st:St}{o:IOp}{r:St}(h:o.run (dM tab ae) st=some r):∃n,o.run (sem tab ae n).call st=some r:=by
 unfold IOp.run at h ⊢
 split at h
 ·split at h
  ·exact vK h
  ·cases h
 ·exact vK h
theorem ug:∀{l:List IOp}{st r:St},aD (dM tab ae) l st=some r→∃n,aD (sem tab ae n).call l st=some r
 |[],_,_,h=>⟨0,h⟩
 |o::l,st,r,h=>by
  simp only[aD] at h
  split at h
  ·rename_i e
   obtain⟨n1,h1⟩:=Jd e
   obtain⟨n2,h2⟩:=ug h
   refine⟨max n1 n2,?_⟩
   simp only[aD]
   rw[yG (fh tab ae (Nat.le_max_left n1 n2)).1 h1]
   exact mn (fh tab ae (Nat.le_max_right n1 n2)).1 h2
  ·cases h
theorem eY:∀{x:ICode}{st:St}{r:Ex×St},x.run (dM tab ae) (eT tab ae) st=some r→∃n,x.run (sem tab ae n).call (sem tab ae n).loop st=some r
 |.skip,_,_,h=>⟨0,h⟩
 |.ops is,st,r,h=>by
  simp only[ICode.run] at h ⊢
  split at h
  ·rename_i e;obtain⟨n,hn⟩:=ug e;exact⟨n,by rw[hn];exact h⟩
  ·cases h
 |.draw is _,st,r,h=>by
  simp only[ICode.run] at h ⊢
  split at h
  ·split at h
   ·rename_i e;obtain⟨n,hn⟩:=ug e;exact⟨n,by rw[hn];exact h⟩
   ·cases h
  ·cases h
 |.seq a b,st,r,h=>by
  simp only[ICode.run] at h ⊢
  split at h
  ·rename_i e
   obtain⟨n1,h1⟩:=eY e
   obtain⟨n2,h2⟩:=eY h
   refine⟨max n1 n2,?_⟩
   rw[cG (fh tab ae (Nat.le_max_left n1 n2)).1 (fh tab ae (Nat.le_max_left n1 n2)).2 h1]
   exact cG (fh tab ae (Nat.le_max_right n1 n2)).1 (fh tab ae (Nat.le_max_right n1 n2)).2 h2
  ·rename_i hn
   obtain⟨n1,h1⟩:=eY h
   refine⟨n1,?_⟩
   rw[h1]
   split
   ·rename_i e;cases e;exact (hn _ h).elim
   ·rfl
 |.cond d a b,st,r,h=>by
  simp only[ICode.run] at h ⊢
  split at h
  ·exact eY h
  ·exact eY h
  ·cases h
 |.block id b,st,r,h=>by
  simp only[ICode.run] at h ⊢
  split at h
  ·rename_i e;obtain⟨n,hn⟩:=eY e;exact⟨n,by rw[hn];exact h⟩
  ·rename_i hn
   obtain⟨n1,h1⟩:=eY h
   refine⟨n1,?_⟩
   rw[h1]
   split
   ·rename_i e;cases e;exact (hn _ _ h).elim
   ·rfl
 |.loop hd b,st,r,h=>kO.1 (by simpa only[ICode.run] using h)
 |.rangeF g fn site,st,r,h=>by
  simp only[ICode.run] at h ⊢
  split at h
  ·split at h
   ·split at h
    ·rename_i e;obtain⟨n,hn⟩:=gi.1 e;exact⟨n,by rw[hn];exact h⟩
    ·cases h
   ·cases h
  ·cases h
 |.exit _,_,_,h=>⟨0,h⟩
 |.ret,_,_,h=>⟨0,h⟩
theorem zO {fn:IFn}{as:List IV}{m:IM}{r:IV×IM}(h:fn.call (dM tab ae) (eT tab ae) as m=some r):∃n,fn.call (sem tab ae n).call (sem tab ae n).loop as m=some r:=by
 unfold IFn.call at h ⊢
 split at h
 ·cases h
 ·rename_i hn
  simp only[if_neg hn]
  split at h
  ·rename_i e;obtain⟨n,hn'⟩:=eY e;exact⟨n,by rw[hn'];exact h⟩
  ·cases h
theorem An {rn:IRnd}{id:Nat}{tm:Env}{as:List IV}{m:IM}{r:IV×IM}(h:rn.call (dM tab ae) (eT tab ae) id tm as m=some r):∃n,rn.call (sem tab ae n).call (sem tab ae n).loop id tm as m=some r:=by
 unfold IRnd.call at h ⊢
 split at h
 ·cases h
 ·rename_i hn
  simp only[if_neg hn]
  split at h
  ·rename_i e
   obtain⟨n1,h1⟩:=eY e
   split at h
   ·rename_i e0
    split at h
    ·rename_i e1
     split at h
     ·rename_i e2
      obtain⟨n2,h2⟩:=eY e2
      refine⟨max n1 n2,?_⟩
      rw[cG (fh tab ae (Nat.le_max_left n1 n2)).1 (fh tab ae (Nat.le_max_left n1 n2)).2 h1]
      simp only[e0,e1]
      rw[cG (fh tab ae (Nat.le_max_right n1 n2)).1 (fh tab ae (Nat.le_max_right n1 n2)).2 h2]
      exact h
     ·cases h
    ·cases h
   ·cases h
  ·cases h
theorem qH {f:FuncId}{p:List IV→Option IV}(hp:ae f=some p) (as:List IV) (m:IM):dM tab ae (.f f) as m=(p as).map (·,m):=by
 ext r
 rw[gi]
 constructor
 ·rintro ⟨k,h⟩
  cases k with
  |zero=>simp[sem] at h
  |succ k=>rw[sem] at h;simp only[hp] at h;exact h
 ·intro h
  exact⟨1,by rw[sem];simp only[hp];exact h⟩
theorem bf {f:FuncId}{fn:IFn}(hp:ae f=none) (hf:tab.fns f=some fn) (as:List IV) (m:IM):dM tab ae (.f f) as m=fn.call (dM tab ae) (eT tab ae) as m:=by
 ext r
 rw[gi]
 constructor
 ·rintro ⟨k,h⟩
  cases k with
  |zero=>simp[sem] at h
  |succ k=>rw[sem] at h;simp only[hp,hf] at h;exact qQ (mq k) (jX k) h
 ·intro h
  obtain⟨k,h⟩:=zO h
  exact⟨k+1,by rw[sem];simp only[hp,hf];exact h⟩
theorem yP {id:Nat}{m:IM}{bz fn site:Nat}{tm:Env}{j:Nat}{r:IRnd}(hm:m.get id=.loop bz fn site tm j) (hr:tab.rnd fn site=some r) (as:List IV) :
  dM tab ae (.y id) as m=r.call (dM tab ae) (eT tab ae) id tm as m:=by
 ext q
 rw[gi]
 constructor
 ·rintro ⟨k,h⟩
  cases k with
  |zero=>simp[sem] at h
  |succ k=>rw[sem] at h;simp only[hm,hr] at h;exact pA (mq k) (jX k) h
 ·intro h
  obtain⟨k,h⟩:=An h
  exact⟨k+1,by rw[sem];simp only[hm,hr];exact h⟩
theorem Bx (hd:Head) (b:ICode) (st:St):eT tab ae hd b st=match st.head hd with
  |none=>none
  |some st=>match b.run (dM tab ae) (eT tab ae) st with
   |some (.normal,st)=>eT tab ae hd b st
   |r=>r:=by
 ext q
 rw[kO]
 constructor
 ·rintro ⟨k,h⟩
  cases k with
  |zero=>simp[sem] at h
  |succ k =>
   rw[sem] at h
   simp only at h
   split at h
   ·cases h
   ·rename_i s1 e1
    rw[e1]
    simp only
    split at h
    ·rename_i e;rw[cG (mq k) (jX k) e];exact jX k _ _ _ _ h
    ·rename_i hn;rw[cG (mq k) (jX k) h]
     split
     ·rename_i e;cases e;exact (hn _ h).elim
     ·rfl
 ·intro h
  split at h
  ·cases h
  ·rename_i s1 e1
   split at h
   ·rename_i s2 e
    obtain⟨n1,h1⟩:=eY e
    obtain⟨n2,h2⟩:=kO.1 h
    refine⟨max n1 n2+1,?_⟩
    rw[sem]
    simp only[e1]
    rw[cG (fh tab ae (Nat.le_max_left n1 n2)).1 (fh tab ae (Nat.le_max_left n1 n2)).2 h1]
    exact (fh tab ae (Nat.le_max_right n1 n2)).2 _ _ _ _ h2
   ·rename_i hn
    obtain⟨n1,h1⟩:=eY h
    refine⟨n1+1,?_⟩
    rw[sem]
    simp only[e1,h1]
    split
    ·rename_i e;cases e;exact (hn _ h).elim
    ·rfl
variable (tab ae)
noncomputable def lc (hd:Head) (b:ICode):Option St→Option (Ex×St)
 |none=>none
 |some st=>match b.run (dM tab ae) (eT tab ae) st with
  |some (.normal,st)=>eT tab ae hd b st
  |r=>r
variable {tab ae}
theorem aS (hd:Head) (b:ICode) (st:St):eT tab ae hd b st=lc tab ae hd b (st.head hd):=by
 rw[Bx]
 cases st.head hd with
 |none=>rfl
 |some st=>rfl
theorem cM (hd:Head) (b:ICode) (st:St):lc tab ae hd b (some st)=match b.run (dM tab ae) (eT tab ae) st with
  |some (.normal,st)=>lc tab ae hd b (st.head hd)
  |r=>r:=by
 have:lc tab ae hd b (some st)=match b.run (dM tab ae) (eT tab ae) st with
  |some (.normal,st)=>eT tab ae hd b st
  |r=>r:=rfl
 rw[this]
 cases b.run (dM tab ae) (eT tab ae) st with
 |none=>rfl
 |some r =>
  obtain⟨e,st'⟩:=r
  cases e with
  |normal=>exact aS hd b st'
  |exit i=>rfl
  |ret=>rfl
end Go.Idl
namespace Go.Idl
open Go.RowKit
variable {X:Ctx}{G:Gh}{w w':World}
def POK (X:Ctx) (f:FuncId) (p:List IV→Option IV):Prop:=∀args v,p args=some v→(∀id,IV.yld id∉args) ∧
 ∀G m w rs,MR X G m w→WF X G w→(∀k,G.lb k=none)→VRs G args rs→Reach X f rs w (jg X G w m v)
theorem wy {m : IM} {v : IV} {r : Value} (hm : MR X G m w) (hw : WF X G w) (hl : ∀ k, G.lb k = none) (hv : VR G v r) (hb : Below w.heap.size w w') : jg X G w m v r w' := by
  have hk : ∀ b, b < w.heap.size → w'.heap[b]? = w.heap[b]? := hb.block
  have hbx : ∀ id b, G.bx id = some b → b < w.heap.size := fun id b e => hw.boxlt b (.inl ⟨id, e⟩)
  refine ⟨G, ⟨?_, ?_, hm.dom, hm.hid⟩, ?_, hv, ?_⟩
  · intro id hn
    obtain ⟨b, ro, e1, e2, e3⟩ := hm.bx id hn
    exact ⟨b, ro, e1, by rw [hk b (hbx id b e1)]; exact e2, e3⟩
  · intro id cs cp off sz e1 e2 b r e3 e4
    rw [hb.cell (p := ⟨b, off, none⟩) (hbx id b e3)] at e4
    exact hm.own id cs cp off sz e1 e2 b r e3 e4
  · have lt_imm : ∀ b o v, G.imm b o = some v → b < w.heap.size := fun b o v e => by
      have := hw.imm b o v e
      rcases Nat.lt_or_ge b w.heap.size with h | h
      · exact h
      · simp [World.cell?, Array.getElem?_eq_none h] at this
    have lt_ow : ∀ b o l, G.ow b o = some l → b < w.heap.size := fun b o l e => by
      have := (hw.owcell b o l e).1
      rcases Nat.lt_or_ge b w.heap.size with h | h
      · exact h
      · simp [World.cell?, Array.getElem?_eq_none h] at this
    exact { imm := fun b o v e => by rw [hb.cell (p := ⟨b, o, none⟩) (lt_imm b o v e)]; exact hw.imm b o v e, inj := hw.inj, linj := hw.linj, disj := hw.disj,
            boxlt := fun b h => Nat.lt_of_lt_of_le (hw.boxlt b h) hb.size, boximm := hw.boximm, boxow := hw.boxow, owimm := hw.owimm,
            owcell := fun b o l e => by rw [hb.cell (p := ⟨b, o, none⟩) (lt_ow b o l e), hb.frozen (p := ⟨b, o, none⟩) (lt_ow b o l e)]; exact hw.owcell b o l e, glob := hw.glob, old := Nat.le_trans hw.old hb.size }
  · exact { os := hb.os, tape := hb.tape, output := hb.output, size := hb.size, imm := fun _ _ _ e => e, bx := fun _ _ e => e,
            other := fun b o e _ _ => by rw [hk b (ee e)]; exact e,
            cells := fun b c t f e _ => ⟨c, f, by rw [hk b (ee e)]; exact e, rfl, fun _ _ => rfl, .inl rfl⟩,
            immNew := fun _ _ _ _ _ e => .inl e, owNew := fun b o l _ e => by rw [e]; rfl, boxNew := fun _ _ q => q, hid := rfl, old := rfl, bxNew := fun _ _ e => .inl e,
            loop := fun b L e => ⟨L, by rw [hk b (ee e)]; exact e⟩ }
theorem yd {m:IM}{v:IV}{r:Value}(hm:MR X G m w) (hw:WF X G w) (hv:VR G v r):jg X G w m v r w:=⟨G,hm,hw,hv,Step.refl _ _⟩
theorem lU {f:FuncId}{p:List IV→Option IV}{e:Array Value→Sem Value}(hc:∀args w,(callFunc f args).run X.P w=((e args).run X.P w).andThen fun v w'=>.ok (.value v) w')
  (hp:∀args v,p args=some v→(∀id,IV.yld id∉args)∧∀G w rs,VRs G args rs→∃r,(e ⟨rs⟩).run X.P w=.ok r w∧VR G v r):POK X f p:=by
 intro args v h
 obtain⟨h1,h2⟩:=hp args v h
 refine⟨h1,fun G m w rs hm hw hl ha=>?_⟩
 obtain⟨r,e1,e2⟩:=h2 G w rs ha
 exact .inr ⟨r,w,by rw[hc,e1];rfl,yd hm hw e2⟩
theorem nm {f:FuncId}{p:List IV→Option IV}{fn:Func}(hf:X.P.funcs[f]?=some fn) (hb:fn.body.isNone=false) (hn:(fn.name == "runtime.NumGoroutine")=false)
  (hp:∀args v,p args=some v→(∀id,IV.yld id∉args)∧∀G w rs,VRs G args rs→Calls X.P f ⟨rs⟩ w fun e w'=>∃r,e=.returned r∧VR G v r∧Below w.heap.size w w'):POK X f p:=by
 intro args v h
 obtain⟨h1,h2⟩:=hp args v h
 refine⟨h1,fun G m w rs hm hw hl ha=>.inl ⟨?_,callsIn_wide.2 ((h2 G w rs ha).mono fun e w' ⟨r,q1,q2,q3⟩=>⟨r,q1,wy hm hw hl q2 q3⟩)⟩⟩
 have hpr:(program).run X.P w=.ok X.P w:=rfl
 have h1:fn.name ≠ "runtime.NumGoroutine" := by simpa using hn
 cases hbb:fn.body with
 |none=>rw[hbb] at hb;cases hb
 |some c=>simp[callFunc,hpr,hf,h1,hbb]
def ie (c:UInt8):List UInt8→Nat→Int
 |[],_=>-1
 |b::r,i=>match b==c with
  |true=>i
  |false=>ie c r (i+1)
theorem tR (c:UInt8):∀(l:List UInt8) (k:Nat),ie c l k=if Lib.indexByte l c=-1 then -1 else Lib.indexByte l c+k
 |[],k=>by simp[ie,Lib.indexByte]
 |b::l,k=>by
  simp only[ie,Lib.indexByte]
  by_cases h:(b==c)=true
  ·simp[h]
  ·have h':(b==c)=false:=by simpa using h
   simp only[h',Bool.false_eq_true,if_false]
   rw[tR c l (k+1)]
   by_cases h2:Lib.indexByte l c=-1
   ·simp[h2]
   ·have:=Lib.indexByte_ge l c
    have h3:¬Lib.indexByte l c+1=-1:=by omega
    simp[h2,h3]
    omega
def Ch (c:UInt8):List UInt8→Nat
 |[]=>0
 |b::r=>match b==c with
  |true=>Ch c r+1
  |false=>Ch c r
theorem zy (c:UInt8):∀l:List UInt8,Ch c l=Lib.countByte l c
 |[]=>rfl
 |b::l=>by
  have:=zy c l
  simp only[Ch,Lib.countByte,List.count_cons] at this ⊢
  cases h:b==c<;>simp[this]
def EF:List UInt8→List UInt8→Int
 |[],[]=>0
 |[],_::_=>-1
 |_::_,[]=>1
 |a::x,b::y=>match Nat.blt a.toNat b.toNat with
  |true=>-1
  |false=>match Nat.blt b.toNat a.toNat with
   |true=>1
   |false=>EF x y
theorem zg:∀a b:List UInt8,EF a b=Lib.compareBytes a b
 |[],[]=>rfl
 |[],_::_=>rfl
 |_::_,[]=>rfl
 |a::x,b::y=>by
  simp only[EF,Lib.compareBytes]
  by_cases h:a<b
  ·have:Nat.blt a.toNat b.toNat=true:=by rw[Nat.blt_eq];exact h
   simp[this,h]
  ·have h1:Nat.blt a.toNat b.toNat=false:=by
    cases q:Nat.blt a.toNat b.toNat with
    |false=>rfl
    |true=>rw[Nat.blt_eq] at q;exact absurd q h
   by_cases h2:b<a
   ·have:Nat.blt b.toNat a.toNat=true:=by rw[Nat.blt_eq];exact h2
    simp[h1,this,h,h2]
   ·have h3:Nat.blt b.toNat a.toNat=false:=by
     cases q:Nat.blt b.toNat a.toNat with
     |false=>rfl
     |true=>rw[Nat.blt_eq] at q;exact absurd q h2
    simp[h1,h3,h,h2,zg x y]
def iG:List IV→Option IV
 |[.str s,.int .u8 c]=>some (.int .i64 (ie c.toNat.toUInt8 s 0))
 |_=>none
def lu:List IV→Option IV
 |[.str s,.int .u8 c]=>some (.int .i64 (Ch c.toNat.toUInt8 s))
 |_=>none
def qm:List IV→Option IV
 |[.str a,.str b]=>some (.int .i64 (EF a b))
 |_=>none
theorem kr {a b:IV}{rs:List Value}(h:VRs G [a,b] rs):∃x y,rs=[x,y]∧VR G a x∧VR G b y:=by
 obtain⟨x,r1,rfl,h1,h⟩:=h.cases_cons
 obtain⟨y,r2,rfl,h2,h⟩:=h.cases_cons
 rw[h.cases_nil]
 exact⟨x,y,rfl,h1,h2⟩
theorem rT {f:FuncId}(hc:∀args w,(callFunc f args).run X.P w=((Extern.BytealgIndexByte.indexByte args).run X.P w).andThen fun v w'=>.ok (.value v) w'):POK X f iG:=by
 refine lU hc fun args v h=>?_
 unfold iG at h
 split at h
 ·rename_i s c
  cases h
  refine⟨by simp,fun G w rs ha=>?_⟩
  obtain⟨x,y,rfl,h1,h2⟩:=kr ha
  cases h1;cases h2
  refine⟨_,Lib.run_indexByteString _ _ _,?_⟩
  have e:=tR c.toNat.toUInt8 s 0
  have:ie c.toNat.toUInt8 s 0=Lib.indexByte s c.toNat.toUInt8:=by
   rw[e];split
   ·rename_i q;exact q.symm
   ·simp
  rw[this]
  exact .int _ _
 ·cases h
theorem r7 {f:FuncId}(hc:∀args w,(callFunc f args).run X.P w=((Extern.BytealgCount.count args).run X.P w).andThen fun v w'=>.ok (.value v) w'):POK X f lu:=by
 refine lU hc fun args v h=>?_
 unfold lu at h
 split at h
 ·rename_i s c
  cases h
  refine⟨by simp,fun G w rs ha=>?_⟩
  obtain⟨x,y,rfl,h1,h2⟩:=kr ha
  cases h1;cases h2
  refine⟨_,Lib.run_countString _ _ _,?_⟩
  rw[zy]
  exact .int _ _
 ·cases h
theorem vW {f:FuncId}(hc:∀args w,(callFunc f args).run X.P w=((Extern.BytealgCompare.compare args).run X.P w).andThen fun v w'=>.ok (.value v) w'):POK X f qm:=by
 refine lU hc fun args v h=>?_
 unfold qm at h
 split at h
 ·rename_i a b
  cases h
  refine⟨by simp,fun G w rs ha=>?_⟩
  obtain⟨x,y,rfl,h1,h2⟩:=kr ha
  cases h1;cases h2
  refine⟨_,Lib.run_compareString _ _ _,?_⟩
  rw[zg]
  exact .int _ _
 ·cases h
def kR (s:List UInt8):Nat→List UInt8
 |0=>[]
 |n+1=>s++kR s n
def mV:List IV→Option IV
 |[.str s,.int .i64 n]=>match decide (0≤n)&&Nat.ble n.toNat 9223372036854775807&&Nat.ble (s.length*n.toNat) 140737488355328 with
  |true=>some (.str (kR s n.toNat))
  |false=>none
 |_=>none
def pw:List UInt8→Bool
 |[]=>true
 |b::r=>Nat.blt b.toNat 128&&pw r
theorem pZ:∀{l:List UInt8},pw l=true→∀(j:Nat) b,l[j]?=some b→b.toNat<128
 |[],_,j,b,h=>by simp at h
 |c::l,h,j,b,hb=>by
  simp only[pw,Bool.and_eq_true,Nat.blt_eq] at h
  cases j with
  |zero=>simp only[List.getElem?_cons_zero,Option.some.injEq] at hb;subst hb;exact h.1
  |succ j=>exact pZ h.2 j b (by simpa using hb)
def Ew (c:UInt8):List UInt8→Bool
 |[]=>false
 |b::r=>Nat.beq b.toNat c.toNat||Ew c r
def kN (cs:List UInt8):List UInt8→Nat→Int
 |[],_=>-1
 |b::r,i=>match Ew b cs with
  |true=>i
  |false=>kN cs r (i+1)
def nj:List IV→Option IV
 |[.str s,.str cs]=>match pw s&&pw cs&&Nat.blt s.length 4294967281&&Nat.blt cs.length 4294967281 with
  |true=>some (.int .i64 (kN cs s 0))
  |false=>none
 |_=>none
theorem yY (s:List UInt8):∀n,kR s n=Lib.repeatL s n
 |0=>rfl
 |n+1=>by simp[kR,Lib.repeatL,yY s n]
theorem xH {f:FuncId}{fn:Func}(hf:X.P.funcs[f]?=some fn) (hb:fn.body.isNone=false) (hn:(fn.name == "runtime.NumGoroutine")=false)
  (hc:∀(s:ByteArray) (c:Nat) (w:World),c≤9223372036854775807→s.size*c≤140737488355328 →
   Calls X.P f #[.string s,.int .i64 c] w fun e w'=>e=.returned (.string ⟨(Lib.repeatL s.data.toList c).toArray⟩)∧Below w.heap.size w w'):POK X f mV:=by
 refine nm hf hb hn fun args v h=>?_
 unfold mV at h
 split at h
 ·rename_i s n
  split at h
  ·rename_i hcond
   cases h
   simp only[Bool.and_eq_true,decide_eq_true_eq] at hcond
   obtain⟨⟨h0,h1⟩,h2⟩:=hcond
   refine⟨by simp,fun G w rs ha=>?_⟩
   obtain⟨x,y,rfl,k1,k2⟩:=kr ha
   cases k1;cases k2
   have hn:n=(n.toNat:Int):=by omega
   rw[hn]
   refine (hc ⟨⟨s⟩⟩ n.toNat w (Nat.le_of_ble_eq_true h1) (Nat.le_of_ble_eq_true h2)).mono fun e w' ⟨q1,q2⟩=>⟨_,q1,?_,q2⟩
   rw[Int.toNat_natCast,yY]
   exact .str _
  ·cases h
 ·cases h
theorem zk (c:UInt8):∀l:List UInt8,Ew c l=l.contains c
 |[]=>rfl
 |b::l=>by
  rw[Ew,List.contains_cons,zk c l]
  congr 1
  by_cases h:c=b
  ·subst h;simp
  ·have:b.toNat≠c.toNat:=fun e=>h (UInt8.toNat_inj.1 e.symm)
   have hb:Nat.beq b.toNat c.toNat=false:=by
    cases q:Nat.beq b.toNat c.toNat with
    |false=>rfl
    |true=>exact absurd (Nat.eq_of_beq_eq_true q) this
   rw[hb]
   simp[h]
theorem qv (cs:List UInt8):∀(l:List UInt8) (k:Nat),kN cs l k=if Lib.indexAny l cs=-1 then -1 else Lib.indexAny l cs+k
 |[],k=>by simp[kN,Lib.indexAny]
 |b::l,k=>by
  simp only[kN,Lib.indexAny]
  rw[zk]
  by_cases h:cs.contains b=true
  ·simp only[h,if_true];simp
  ·have h':cs.contains b=false:=by simpa using h
   simp only[h',Bool.false_eq_true,if_false]
   rw[qv cs l (k+1)]
   by_cases h2:Lib.indexAny l cs=-1
   ·simp[h2]
   ·have:=Lib.indexAny_ge cs l
    have h3:¬Lib.indexAny l cs+1=-1:=by omega
    simp[h2,h3]
    omega
theorem tP {f:FuncId}{fn:Func}(hf:X.P.funcs[f]?=some fn) (hb:fn.body.isNone=false) (hn:(fn.name == "runtime.NumGoroutine")=false)
  (hc:∀(s chars:ByteArray) (w:World),s.size<4294967281→chars.size<4294967281→(∀(j:Nat) b,s.data.toList[j]?=some b→b.toNat<128)→(∀(j:Nat) b,chars.data.toList[j]?=some b→b.toNat<128) →
   Calls X.P f #[.string s,.string chars] w fun e w'=>e=.returned (.int .i64 (Lib.indexAny s.data.toList chars.data.toList))∧Below w.heap.size w w'):POK X f nj:=by
 refine nm hf hb hn fun args v h=>?_
 unfold nj at h
 split at h
 ·rename_i s cs
  split at h
  ·rename_i hcond
   cases h
   simp only[Bool.and_eq_true,Nat.blt_eq] at hcond
   obtain⟨⟨⟨h1,h2⟩,h3⟩,h4⟩:=hcond
   refine⟨by simp,fun G w rs ha=>?_⟩
   obtain⟨x,y,rfl,k1,k2⟩:=kr ha
   cases k1;cases k2
   refine (hc ⟨⟨s⟩⟩ ⟨⟨cs⟩⟩ w h3 h4 (pZ h1) (pZ h2)).mono fun e w' ⟨q1,q2⟩=>⟨_,q1,?_,q2⟩
   have e1:=qv cs s 0
   have:kN cs s 0=Lib.indexAny s cs:=by
    rw[e1];split
    ·rename_i q;exact q.symm
    ·simp
   rw[this]
   exact .int _ _
  ·cases h
 ·cases h
def tK:List IV→Option IV
 |[.str s,.str [c]]=>some (.int .i64 (ie c s 0))
 |_=>none
theorem xl {f:FuncId}{fn:Func}(hf:X.P.funcs[f]?=some fn) (hb:fn.body.isNone=false) (hn:(fn.name == "runtime.NumGoroutine")=false)
  (hc:∀(s:ByteArray) (c:UInt8) (w:World),Calls X.P f #[.string s,.string ⟨#[c]⟩] w fun e w'=>e=.returned (.int .i64 (Lib.indexByte s.data.toList c))∧w'=w):POK X f tK:=by
 refine nm hf hb hn fun args v h=>?_
 unfold tK at h
 split at h
 ·rename_i s c
  cases h
  refine⟨by simp,fun G w rs ha=>?_⟩
  obtain⟨x,y,rfl,h1,h2⟩:=kr ha
  cases h1;cases h2
  have e:=tR c s 0
  have e':ie c s 0=Lib.indexByte s c:=by
   rw[e];split
   ·rename_i q;exact q.symm
   ·simp
  refine (hc ⟨⟨s⟩⟩ c w).mono fun e w' ⟨q1,q2⟩=>⟨_,q1,?_,by subst q2;exact Below.refl _ _⟩
  rw[e']
  exact .int _ _
 ·cases h
end Go.Idl
