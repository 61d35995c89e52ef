/- This text proves what the interpreter returns at the functions for strings, numbers and fields of values; it has no conditions. -/
import Derived.Test.YtbpnjicaapldoaaGreatDoorIdg
import Derived.Test.YtbpnjicaapldoaaGreatDoorIde
import Derived.Test.YtbpnjicaapldoaaGreatDoorIda
import Derived.KernelRfl
set_option linter.unusedSimpArgs false
set_option linter.unusedVariables false
namespace Go.Idl
noncomputable abbrev cw:=callW tab prims
noncomputable abbrev lw:=loopW tab prims
def settleX (m:IM) (v:IV):Option (IV×IM):=settle m m v
theorem settle0 {m:IM}{v:IV}:settle m m v=if v.refsDeep=some 0 then some (v,m) else settleX m v:=by
 split
 ·rename_i h
  unfold settle
  simp[h,frc_eq,IM.size]
 ·rfl
theorem w64 {x:Int}(h1:-9223372036854775808≤x) (h2:x≤9223372036854775807):IntKind.i64.wrap x=x:=by
 simp only[IntKind.wrap,IntKind.bits,IntKind.signed];simp;split<;>omega
theorem w8 {x:Int}(h1:0≤x) (h2:x≤255):IntKind.u8.wrap x=x:=by
 simp only[IntKind.wrap,IntKind.bits,IntKind.signed];simp;omega
theorem bAdd {k:IntKind}{a b:Int}:binInt .add k a b=some (.int k (k.wrap (a+b))):=rfl
theorem bSub {k:IntKind}{a b:Int}:binInt .sub k a b=some (.int k (k.wrap (a-b))):=rfl
theorem bMul {k:IntKind}{a b:Int}:binInt .mul k a b=some (.int k (k.wrap (a*b))):=rfl
theorem bQuo {k:IntKind}{a b:Int}:binInt .quo k a b=if b=0 then none else some (.int k (k.wrap (a.tdiv b))):=rfl
theorem bRem {k:IntKind}{a b:Int}:binInt .rem k a b=if b=0 then none else some (.int k (a.tmod b)):=rfl
theorem bLss {k:IntKind}{a b:Int}:binInt .lss k a b=some (.bool (decide (a<b))):=rfl
theorem bLeq {k:IntKind}{a b:Int}:binInt .leq k a b=some (.bool (decide (a≤b))):=rfl
theorem bGtr {k:IntKind}{a b:Int}:binInt .gtr k a b=some (.bool (decide (b<a))):=rfl
theorem bGeq {k:IntKind}{a b:Int}:binInt .geq k a b=some (.bool (decide (b≤a))):=rfl
theorem bEql {k:IntKind}{a b:Int}:binInt .eql k a b=some (.bool (a==b)):=rfl
theorem bNeq {k:IntKind}{a b:Int}:binInt .neq k a b=some (.bool (a != b)):=rfl
theorem shl6 {a:Int}:shiftI .shl .i64 a 6=some (.int .i64 (IntKind.i64.wrap (a*64))):=rfl
mutual
def ivE:IV→IV→Bool
 |.int k a,.int k' b=>decide (k=k')&&decide (a=b)
 |.bool a,.bool b=>a==b
 |.str a,.str b=>decide (a=b)
 |.tup a,.tup b=>ivsE a b
 |_,_=>false
def ivsE:List IV→List IV→Bool
 |[],[]=>true
 |a::r,b::s=>ivE a b&&ivsE r s
 |_,_=>false
end
mutual
theorem ivE_s:∀{a b:IV},ivE a b=true→a=b
 |.int k a,.int k' b,h=>by
  simp only[ivE,Bool.and_eq_true,decide_eq_true_eq] at h
  rw[h.1,h.2]
 |.bool a,.bool b,h=>by
  simp only[ivE,beq_iff_eq] at h
  rw[h]
 |.str a,.str b,h=>by
  simp only[ivE,decide_eq_true_eq] at h
  rw[h]
 |.tup a,.tup b,h=>by
  have h':ivsE a b=true:=by simpa only[ivE] using h
  rw[ivsE_s h']
theorem ivsE_s:∀{a b:List IV},ivsE a b=true→a=b
 |[],[],_=>rfl
 |a::r,b::s,h=>by
  simp only[ivsE,Bool.and_eq_true] at h
  rw[ivE_s h.1,ivsE_s h.2]
end
def resE (x:Option (IV×IM)) (v:IV):Bool:=match x with
 |some (r,⟨[],0⟩)=>ivE r v
 |_=>false
theorem resE_s {x:Option (IV×IM)}{v:IV}(h:resE x v=true):x=some (v,⟨[],0⟩):=by
 unfold resE at h
 split at h
 ·rw[ivE_s h]
 ·cases h
theorem cw_of (n:Nat) {c:Callee}{as:List IV}{v:IV}(h:resE ((sem tab prims n).call c as ⟨[],0⟩) v=true):cw c as ⟨[],0⟩=some (v,⟨[],0⟩):=callW_iff.2 ⟨n,resE_s h⟩
def tcL:List (Nat×List IV×IV)→Nat→List IV→Option IV
 |[],_,_=>none
 |(g,bs,v)::r,f,as=>match Nat.beq g f&&ivsE as bs with
  |true=>some v
  |false=>tcL r f as
def tc (l:List (Nat×List IV×IV)):CallT:=fun c as m=>match c,m with
 |.f f,⟨[],0⟩=>match tcL l f as with
  |some v=>some (v,⟨[],0⟩)
  |none=>none
 |_,_=>none
def tl (l:List (Nat×List IV×IV)):Nat→LoopT
 |0,_,_,_=>none
 |k+1,hd,b,st=>match st.head hd with
  |none=>none
  |some st=>match b.run (tc l) (tl l k) st with
   |some (.normal,st)=>tl l k hd b st
   |r=>r
def okL (l:List (Nat×List IV×IV)):Prop:=∀f as v,(f,as,v)∈l→cw (.f f) as ⟨[],0⟩=some (v,⟨[],0⟩)
theorem tcL_s {l:List (Nat×List IV×IV)}{f:Nat}{as:List IV}{v:IV}(h:tcL l f as=some v):(f,as,v)∈l:=by
 induction l with
 |nil=>cases h
 |cons p r ih =>
  obtain⟨g,bs,u⟩:=p
  unfold tcL at h
  split at h
  ·rename_i q
   simp only[Bool.and_eq_true] at q
   cases h
   rw[Nat.eq_of_beq_eq_true q.1,ivsE_s q.2]
   exact .head _
  ·exact .tail _ (ih h)
theorem tc_le {l:List (Nat×List IV×IV)}(h:okL l):CallLe (tc l) cw:=by
 intro c as m r e
 unfold tc at e
 split at e
 ·split at e
  ·rename_i q
   cases e
   exact h _ _ _ (tcL_s q)
  ·cases e
 ·cases e
theorem tl_le {l:List (Nat×List IV×IV)}(h:okL l):∀k,LoopLe (tl l k) lw
 |0,_,_,_,_,e=>by cases e
 |k+1,hd,b,st,r,e=>by
  unfold tl at e
  unfold lw
  rw[loopW_eq]
  split at e
  ·cases e
  ·rename_i st1 e1
   rw[e1]
   simp only
   split at e
   ·rename_i st2 e2
    rw[code_mono (tc_le h) (tl_le h k) e2]
    exact tl_le h k _ _ _ _ e
   ·rename_i x hx
    cases hq:b.run (tc l) (tl l k) st1 with
    |none=>simp only[hq] at e;cases e
    |some p =>
     obtain⟨ex,s2⟩:=p
     rw[code_mono (tc_le h) (tl_le h k) hq]
     cases ex with
     |normal=>exact absurd hq (hx s2)
     |exit i=>simpa only[hq] using e
     |ret=>simpa only[hq] using e
end Go.Idl
