/- This text proves what the interpreter returns at the functions that OpsConsequences reaches, first part; it has no conditions. -/
import Derived.Test.YtbpnjicaapldoaaGreatDoorIde
import Derived.Test.YtbpnjicaapldoaaGreatDoorIdn
import Derived.Test.YtbpnjicaapldoaaGreatDoorIdo
set_option linter.unusedSimpArgs false
set_option linter.unusedVariables false
namespace Go.Idl
theorem atoB_app:∀(l r:List UInt8) (a:Nat),atoB a (l++r)=(atoB a l).bind fun n=>atoB n r
 |[],r,a=>rfl
 |b::l,r,a=>by
  rw[List.cons_append,atoB,atoB]
  split
  ·exact atoB_app l r _
  ·rfl
theorem atoB_shift:∀(l:List UInt8) (a v:Nat),atoB 0 l=some v→atoB a l=some (a*10^l.length+v):=by
 have key:∀(l:List UInt8) (a b n:Nat),atoB a l=some n→atoB (a+b) l=some (b*10^l.length+n):=by
  intro l
  induction l with
  |nil=>intro a b n h;simp only[atoB,Option.some.injEq] at h ⊢;subst h;simp;omega
  |cons c l ih =>
   intro a b n h
   rw[atoB] at h ⊢
   split at h
   ·rw[show (a+b)*10+(c.toNat-48)=(a*10+(c.toNat-48))+b*10 by omega,ih _ _ _ h]
    rw[List.length_cons,Nat.pow_succ,Nat.mul_assoc b 10,Nat.mul_comm 10]
   ·cases h
 intro l a v h
 have:=key l 0 a v h
 rwa [Nat.zero_add] at this
def limV:List Nat→Nat
 |[]=>0
 |x::r=>x+1000000000*limV r
def limS:Nat→List UInt8→List Nat
 |0,_=>[]
 |k+1,s=>if s=[] then [] else (atoB 0 (s.drop (s.length-9))).getD 0::limS k (s.take (s.length-9))
theorem limS_val:∀(k:Nat) (s:List UInt8) (v:Nat),s.length≤9*k→atoB 0 s=some v→limV (limS k s)=v
 |0,s,v,hl,h=>by
  have:s=[]:=List.length_eq_zero_iff.1 (by omega)
  subst this
  simp only[atoB,Option.some.injEq] at h
  subst h;rfl
 |k+1,s,v,hl,h=>by
  by_cases hs:s=[]
  ·subst hs
   simp only[atoB,Option.some.injEq] at h
   subst h
   rw[limS,if_pos rfl];rfl
  ·have happ:=List.take_append_drop (s.length-9) s
   rw[←happ,atoB_app] at h
   obtain⟨n,h1,h2⟩:=Option.bind_eq_some_iff.1 h
   rw[limS,if_neg hs,limV,limS_val k _ n (by rw[List.length_take];omega) h1]
   cases hd:atoB 0 (s.drop (s.length-9)) with
   |none =>
    exfalso
    have:∀(l:List UInt8) (a b:Nat),atoB a l=none→atoB b l=none:=by
     intro l
     induction l with
     |nil=>intro a b e;cases e
     |cons c l ih =>
      intro a b e
      rw[atoB] at e ⊢
      split
      ·rename_i q;rw[q] at e;exact ih _ _ e
      ·rfl
    rw[this _ _ n hd] at h2
    cases h2
   |some w =>
    have e:=atoB_shift _ n w hd
    rw[h2] at e
    simp only[Option.some.injEq] at e
    simp only[Option.getD_some]
    by_cases h9:s.length<9
    ·have:s.take (s.length-9)=[]:=by rw[show s.length-9=0 by omega];rfl
     rw[this] at h1
     simp only[atoB,Option.some.injEq] at h1
     subst h1
     omega
    ·have:(s.drop (s.length-9)).length=9:=by rw[List.length_drop];omega
     rw[this] at e
     rw[e]
     have:(10:Nat)^9=1000000000:=rfl
     omega
def limOk (l:List Nat):Prop:=∀x∈l,x<1000000000
theorem limV_app:∀(a b:List Nat),limV (a++b)=limV a+1000000000^a.length*limV b
 |[],b=>by simp[limV]
 |x::a,b=>by
  rw[List.cons_append,limV,limV,limV_app a b,List.length_cons,Nat.pow_succ,Nat.mul_add,Nat.add_assoc]
  congr 1
  rw[Nat.mul_comm (1000000000^a.length) 1000000000,Nat.mul_assoc]
theorem limV_lt:∀(a:List Nat),limOk a→limV a<1000000000^a.length
 |[],_=>by simp[limV]
 |x::a,h=>by
  have h1:=limV_lt a fun y hy=>h y (List.mem_cons_of_mem _ hy)
  have h2:=h x List.mem_cons_self
  rw[limV,List.length_cons,Nat.pow_succ]
  omega
theorem limV_ge {a:List Nat}(x:Nat) (hx:x≠0):1000000000^a.length≤limV (a++[x]):=by
 rw[limV_app]
 simp only[limV,Nat.mul_zero,Nat.add_zero]
 have:1000000000^a.length*1≤1000000000^a.length*x:=Nat.mul_le_mul_left _ (by omega)
 omega
def trimZ:List Nat→List Nat
 |[]=>[]
 |x::r=>match trimZ r with
  |[]=>if x=0 then [] else [x]
  |y::t=>x::y::t
theorem trimZ_val:∀l:List Nat,limV (trimZ l)=limV l
 |[]=>rfl
 |x::r=>by
  have ih:=trimZ_val r
  rw[trimZ,limV]
  split
  ·rename_i e
   rw[e] at ih
   rw[←ih]
   split
   ·rename_i e0;subst e0;rfl
   ·rfl
  ·rename_i y t e
   rw[limV,←e,ih]
def canZ (l:List Nat):Prop:=limOk l∧∀a x,l=a++[x]→x≠0
theorem canZ_lt {a b:List Nat}(ha:canZ a) (hb:canZ b) (h:a.length<b.length):limV a<limV b:=by
 have h1:=limV_lt a ha.1
 have hne:b≠[]:=by intro e;subst e;simp at h
 have e:=(List.dropLast_concat_getLast hne).symm
 have h2:=limV_ge (a:=b.dropLast) (b.getLast hne) (hb.2 _ _ e)
 rw[←e,List.length_dropLast] at h2
 have h3:1000000000^a.length≤1000000000^(b.length-1):=Nat.pow_le_pow_right (by decide) (by omega)
 omega
def lexT (a b:List Nat):Nat→Int
 |0=>0
 |i+1=>if a.getD i 0<b.getD i 0 then -1 else if b.getD i 0<a.getD i 0 then 1 else lexT a b i
def sgnC (x y:Nat):Int:=if x<y then -1 else if y<x then 1 else 0
theorem lexT_sgn {a b:List Nat}(ha:limOk a) (hb:limOk b) (hl:a.length=b.length):∀n,n≤a.length→lexT a b n=sgnC (limV (a.take n)) (limV (b.take n))
 |0,_=>by simp[lexT,sgnC]
 |n+1,h=>by
  have h1:n<a.length:=by omega
  have h2:n<b.length:=by omega
  have e1:limV (a.take (n+1))=limV (a.take n)+1000000000^n*a[n]:=by
   rw[←List.take_append_getElem h1,limV_app,List.length_take,Nat.min_eq_left (by omega)];simp[limV]
  have e2:limV (b.take (n+1))=limV (b.take n)+1000000000^n*b[n]:=by
   rw[←List.take_append_getElem h2,limV_app,List.length_take,Nat.min_eq_left (by omega)];simp[limV]
  have b1:=limV_lt (a.take n) fun x hx=>ha x (List.mem_of_mem_take hx)
  have b2:=limV_lt (b.take n) fun x hx=>hb x (List.mem_of_mem_take hx)
  rw[List.length_take,Nat.min_eq_left (by omega)] at b1 b2
  have g1:a.getD n 0=a[n]:=by simp[List.getD_eq_getElem?_getD,h1]
  have g2:b.getD n 0=b[n]:=by simp[List.getD_eq_getElem?_getD,h2]
  have key:∀x y p u v:Nat,u<p→v<p→x<y→u+p*x<v+p*y:=by
   intro x y p u v hu hv hxy
   have:p*(x+1)≤p*y:=Nat.mul_le_mul_left _ hxy
   rw[Nat.mul_add] at this
   omega
  rw[lexT,g1,g2,e1,e2,lexT_sgn ha hb hl n (by omega)]
  by_cases q1:a[n]<b[n]
  ·have:=key a[n] b[n] _ _ _ b1 b2 q1
   rw[if_pos q1,sgnC,if_pos this]
  ·rw[if_neg q1]
   by_cases q2:b[n]<a[n]
   ·have:=key b[n] a[n] _ _ _ b2 b1 q2
    rw[if_pos q2,sgnC,if_neg (by omega),if_pos this]
   ·rw[if_neg q2]
    have:a[n]=b[n]:=by omega
    rw[this]
    unfold sgnC
    simp only[Nat.add_lt_add_iff_right]
theorem sizes_sgn {a b:List Nat}(ha:canZ a) (hb:canZ b):(if a.length<b.length then (-1:Int) else if b.length<a.length then 1 else lexT a b a.length)=sgnC (limV a) (limV b):=by
 by_cases h1:a.length<b.length
 ·rw[if_pos h1,sgnC,if_pos (canZ_lt ha hb h1)]
 ·rw[if_neg h1]
  by_cases h2:b.length<a.length
  ·have:=canZ_lt hb ha h2
   rw[if_pos h2,sgnC,if_neg (by omega),if_pos this]
  ·rw[if_neg h2,lexT_sgn ha.1 hb.1 (by omega) a.length (Nat.le_refl _),List.take_length,show a.length=b.length by omega,List.take_length]
def horn:List Nat→Nat
 |[]=>0
 |x::r=>(horn r*1000000000+x)%18446744073709551616
theorem horn_val:∀l:List Nat,horn l=limV l%18446744073709551616
 |[]=>rfl
 |x::r=>by
  rw[horn,limV,horn_val r]
  omega
theorem atoB_lt:∀(l:List UInt8) (a v:Nat),atoB a l=some v→v<(a+1)*10^l.length
 |[],a,v,h=>by
  simp only[atoB,Option.some.injEq] at h
  subst h;simp
 |b::r,a,v,h=>by
  rw[atoB] at h
  split at h
  ·rename_i q
   simp only[Bool.and_eq_true] at q
   have q2:=Nat.le_of_ble_eq_true q.2
   have:=atoB_lt r _ v h
   rw[List.length_cons,Nat.pow_succ]
   refine Nat.lt_of_lt_of_le this ?_
   rw[Nat.mul_comm (10^r.length) 10,←Nat.mul_assoc]
   exact Nat.mul_le_mul_right _ (by omega)
  ·cases h
theorem limS_ok:∀(k:Nat) (s:List UInt8),limOk (limS k s)
 |0,s=>fun x hx=>by cases hx
 |k+1,s=>by
  unfold limS
  split
  ·intro x hx;cases hx
  ·intro x hx
   rcases List.mem_cons.1 hx with rfl | hx
   ·cases h:atoB 0 (s.drop (s.length-9)) with
    |none=>simp
    |some v =>
     have:=atoB_lt _ _ v h
     have h2:(s.drop (s.length-9)).length≤9:=by rw[List.length_drop];omega
     have h3:10^(s.drop (s.length-9)).length≤10^9:=Nat.pow_le_pow_right (by decide) h2
     simp only[Option.getD_some]
     omega
   ·exact limS_ok k _ x hx
theorem trimZ_mem:∀(l:List Nat),∀x∈trimZ l,x∈l
 |[],x,h=>by cases h
 |y::r,x,h=>by
  rw[trimZ] at h
  split at h
  ·split at h
   ·cases h
   ·rcases List.mem_cons.1 h with rfl | h
    ·exact List.mem_cons_self
    ·cases h
  ·rename_i z t e
   rcases List.mem_cons.1 h with rfl | h
   ·exact List.mem_cons_self
   ·exact List.mem_cons_of_mem _ (trimZ_mem r x (e▸h))
theorem trimZ_can:∀(l:List Nat),∀a x,trimZ l=a++[x]→x≠0
 |[],a,x,h=>by
  rw[trimZ] at h
  cases a<;>cases h
 |y::r,a,x,h=>by
  rw[trimZ] at h
  split at h
  ·split at h
   ·cases a<;>cases h
   ·rename_i q
    cases a with
    |nil=>cases h;exact q
    |cons b a=>simp at h
  ·rename_i z t e
   cases a with
   |nil=>cases h
   |cons b a =>
    simp only[List.cons_append,List.cons.injEq] at h
    exact trimZ_can r a x (by rw[e];exact h.2)
theorem limbs_can (k:Nat) (s:List UInt8):canZ (trimZ (limS k s)):=⟨fun x hx=>limS_ok k s x (trimZ_mem _ x hx),trimZ_can _⟩
def lenB (x:Nat):Nat:=if x=0 then 0 else Nat.log2 x+1
def ndB (d:Nat):Nat:=lenB d*78913/262144+(if 10^(lenB d*78913/262144)≤d then 1 else 0)
theorem lenB_bd {d:Nat}(h:1≤d) (h2:d<2^64):1≤lenB d∧lenB d≤64∧2^(lenB d-1)≤d∧d<2^lenB d:=by
 have h0:d≠0:=by omega
 have e:lenB d=Nat.log2 d+1:=by unfold lenB;rw[if_neg h0]
 have h3:Nat.log2 d<64:=(Nat.log2_lt h0).2 h2
 rw[e]
 refine⟨by omega,by omega,?_,Nat.lt_log2_self⟩
 rw[Nat.add_sub_cancel]
 exact Nat.log2_self_le h0
theorem nd_spec {d:Nat}(h:1≤d) (h2:d<2^64):1≤ndB d∧ndB d≤20∧10^(ndB d-1)≤d∧d<10^ndB d:=by
 obtain⟨l1,l2,l3,l4⟩:=lenB_bd h h2
 have hall:((List.range 65).all fun L=>decide (L=0)||(decide (2^L≤10^(L*78913/262144+1))&&(decide (L*78913/262144=0)||decide (10^(L*78913/262144-1)≤2^(L-1)))&&decide (L*78913/262144≤19)))=true:=by decide +kernel
 have hL:=List.all_eq_true.1 hall (lenB d) (List.mem_range.2 (by omega))
 simp only[Bool.or_eq_true,Bool.and_eq_true,decide_eq_true_eq] at hL
 rcases hL with q | ⟨⟨q1,q2⟩,q3⟩
 ·omega
 ·unfold ndB
  generalize lenB d*78913/262144=n at q1 q2 q3
  generalize lenB d=L at l1 l2 l3 l4 q1 q2
  by_cases g:10^n≤d
  ·rw[if_pos g]
   refine⟨by omega,by omega,by rw[Nat.add_sub_cancel];exact g,Nat.lt_of_lt_of_le l4 q1⟩
  ·rw[if_neg g,Nat.add_zero]
   rcases q2 with q2 | q2
   ·subst q2;simp at g;omega
   ·have hn:n≠0:=by intro e;subst e;simp at g;omega
    exact⟨by omega,by omega,Nat.le_trans q2 l3,by omega⟩
def digN:Nat→Nat→List UInt8
 |0,_=>[]
 |k+1,n=>digN k (n/10)++[UInt8.ofNat (48+n%10)]
theorem digN_len:∀k n,(digN k n).length=k
 |0,_=>rfl
 |k+1,n=>by rw[digN,List.length_append,digN_len];rfl
theorem dg_val (d:Nat) (h:d<10):(UInt8.ofNat (48+d)).toNat=48+d:=by
 simp
 omega
theorem atoB_digN:∀k n,atoB 0 (digN k n)=some (n%10^k)
 |0,n=>by simp[digN,atoB,Nat.mod_one]
 |k+1,n=>by
  have hd:=dg_val (n%10) (Nat.mod_lt _ (by decide))
  have b1:Nat.ble 48 (48+n%10)=true:=Nat.ble_eq_true_of_le (by omega)
  have b2:Nat.ble (48+n%10) 57=true:=Nat.ble_eq_true_of_le (by omega)
  rw[digN,atoB_app,atoB_digN k (n/10),Option.bind_some,atoB,hd,b1,b2]
  simp only[Bool.and_self,atoB]
  congr 1
  rw[Nat.pow_succ,Nat.mul_comm (10^k) 10,Nat.mod_mul,show 48+n%10-48=n%10 by omega,Nat.mul_comm 10]
  omega
def decN (n:Nat):List UInt8:=if n=0 then [48] else digN (ndB n) n
theorem atoB_decN (n:Nat) (h:n<2^64):atoB 0 (decN n)=some n:=by
 unfold decN
 by_cases h0:n=0
 ·subst h0;rfl
 ·rw[if_neg h0,atoB_digN]
  obtain⟨_,_,_,h4⟩:=nd_spec (d:=n) (by omega) h
  rw[Nat.mod_eq_of_lt h4]
theorem decN_len (n:Nat) (h:n<2^64):1≤(decN n).length∧(decN n).length≤20:=by
 unfold decN
 by_cases h0:n=0
 ·rw[if_pos h0];decide
 ·rw[if_neg h0,digN_len]
  obtain⟨h1,h2,_,_⟩:=nd_spec (d:=n) (by omega) h
  exact⟨h1,h2⟩
theorem digN_add:∀(b a n:Nat),digN (a+b) n=digN a (n/10^b)++digN b n
 |0,a,n=>by simp[digN]
 |b+1,a,n=>by
  rw[←Nat.add_assoc,digN,digN_add b a (n/10),digN,←List.append_assoc,Nat.div_div_eq_div_mul,Nat.pow_succ,Nat.mul_comm 10]
theorem digN_hd (k n:Nat) (h:10^k≤n) (h2:n<10^(k+1)):∃d r,digN (k+1) n=UInt8.ofNat (48+d)::r∧1≤d∧d≤9:=by
 have hp:0<10^k:=Nat.pow_pos (by decide)
 have e:=digN_add k 1 n
 rw[Nat.add_comm 1 k] at e
 have h3:1≤n/10^k:=(Nat.le_div_iff_mul_le hp).2 (by omega)
 have h4:n/10^k<10:=(Nat.div_lt_iff_lt_mul hp).2 (by rw[Nat.pow_succ] at h2;omega)
 refine⟨n/10^k,digN k n,?_,h3,by omega⟩
 rw[e]
 simp only[digN,List.nil_append,List.singleton_append]
 rw[Nat.mod_eq_of_lt h4]
theorem callC_cw {R:Type}{c:Callee}{vs:List IV}{m m':IM}{v:IV}(h:cw c vs m=some (v,m')) (hr:(refsAll (vs.flatMap IV.cells)).isSome=true) (K:IV→IM→Option R):callC cw c vs [] m K=K v m':=callC_of h hr K
def digB (b:UInt8):Bool:=Nat.ble 48 b.toNat&&Nat.ble b.toNat 57
def digsB:List UInt8→Bool
 |[]=>true
 |b::r=>digB b&&digsB r
def isNumB (s:List UInt8):Bool:=digsB s&&(decide (s≠[])&&(decide (s=[48])||decide (s.head?≠some 48)))
def valB (s:List UInt8):Nat:=(atoB 0 s).getD 0
def tyR:List UInt8→Int×Int×Bool
 |[]=>(6,0,false)
 |c::d=>if (c=117∨c=105)∧isNumB d=true∧d.length≤3 then
   (if 64<valB d∨(valB d=0∧c=105) then (3,0,false) else (0,(valB d:Int),decide (c=105)))
  else (6,0,false)
def tyOk (s:List UInt8):Bool:=decide ((tyR s).1=0)
def isFlB (s:List UInt8):Bool:=decide (s=[102,51,50])||decide (s=[102,54,52])
def widR (s:List UInt8):Int×Int :=
 if s=[112,116,114] then (64,0) else if s=[102,51,50] then (32,0) else if s=[102,54,52] then (64,0) else if (tyR s).1=0 then ((tyR s).2.1,0) else (0,12)
def convB (op:Int) (f t:List UInt8):Bool :=
 if op=38∨op=39 then tyOk f&&tyOk t
 else if op=40 then tyOk f&&(tyOk t&&decide ((tyR t).2.1≤(tyR f).2.1))
 else if op=41 then (tyOk f||isFlB f)&&((tyOk t||isFlB t)&&decide ((widR f).1=(widR t).1))
 else if op=42 then tyOk f&&isFlB t
 else if op=43∨op=44 then isFlB f&&tyOk t
 else if op=45 then isFlB f&&(isFlB t&&decide (f≠t))
 else false
theorem atoB_digs:∀(s:List UInt8) (a:Nat),digsB s=true→∃n,atoB a s=some n∧n<(a+1)*10^s.length
 |[],a,_=>⟨a,rfl,by simp⟩
 |b::r,a,h=>by
  simp only[digsB,digB,Bool.and_eq_true] at h
  obtain⟨⟨h1,h2⟩,h3⟩:=h
  have h2':=Nat.le_of_ble_eq_true h2
  obtain⟨n,e,hn⟩:=atoB_digs r (a*10+(b.toNat-48)) h3
  refine⟨n,by rw[atoB,h1,h2];exact e,Nat.lt_of_lt_of_le hn ?_⟩
  rw[List.length_cons,Nat.pow_succ,Nat.mul_comm (10^r.length) 10,←Nat.mul_assoc]
  exact Nat.mul_le_mul_right _ (by omega)
theorem valB_lt {s:List UInt8}(h:digsB s=true) (hl:s.length≤3):atoB 0 s=some (valB s)∧valB s<1000:=by
 obtain⟨n,e,hn⟩:=atoB_digs s 0 h
 have:10^s.length≤10^3:=Nat.pow_le_pow_right (by decide) hl
 refine⟨by rw[valB,e];rfl,?_⟩
 rw[valB,e]
 simp only[Option.getD_some]
 omega
theorem isNumB_digs {s:List UInt8}(h:isNumB s=true):digsB s=true:=by
 simp only[isNumB,Bool.and_eq_true] at h
 exact h.1
theorem tyR_bd (s:List UInt8):0≤(tyR s).2.1∧(tyR s).2.1≤64:=by
 unfold tyR
 split
 ·simp
 ·split
  ·split
   ·simp
   ·rename_i h2
    simp only[not_or] at h2
    simp only
    omega
  ·simp
end Go.Idl
namespace Go.Idl
attribute [local go_sem] uV_cons uI_cons gI gS iteC_if grd_if asI_mk asB_mk asS_mk asA_mk asT_mk asP_mk asP0_mk unc_cons unn_nil unb_cons unbn_nil asC_mk asIt_mk nilV_nil exC_if bindX_mk bindX_none refsC_nil refsC_cons plainC_nil plainC_cons ldP_pI ldP_pB nxt_inl nxt_inr nxt_if rA_nil rA_cons rD_of rD_int rD_bool rD_str rD_agg rD_tup go_nil go_cons elR_agg elR_int elR_bool elR_str elR_of refs_int refs_bool refs_str refs_nil refs_sl settle_id settle_set refsAll_nil refsAll_isSome refs_pB refs_fn cells_int cells_bool cells_str cells_pB cells_agg cells_fn cells_nil cells_sl List.flatMap_cons List.flatMap_nil
theorem dec_hd {s:List UInt8}{k:Nat}(h:k<s.length):(s[k].toNat<128→Utf8.decode ⟨⟨s⟩⟩ k=(s[k].toNat,1))∧(128≤s[k].toNat→128≤(Utf8.decode ⟨⟨s⟩⟩ k).1):=by
 have hg:((ByteArray.mk ⟨s⟩).get! (k+0)).toNat=s[k].toNat:=by
  simp[ByteArray.get!,h]
 rw[Utf8.decode.eq_1]
 simp only[hg]
 refine⟨fun q=>by rw[if_pos q],fun q=>?_⟩
 rw[if_neg (by omega)]
 repeat' split
 all_goals (try simp only[Utf8.runeError])
 all_goals first
  |decide
  |(rename_i h1;simp only[ge_iff_le,Bool.and_eq_true,decide_eq_true_eq] at h1;omega)
  |omega
theorem loop130 (s:List UInt8) (m:IM):∀(j k:Nat),s.length=k+j →
  L129_0 s s k m=some (if digsB (s.drop k)=true then (.exit 0,[.str s],[],m) else (.ret,[.bool false],[],m)):=by
 intro j
 induction j with
 |zero =>
  intro k hk
  have e:s.drop k=[]:=List.drop_eq_nil_iff.2 (by omega)
  have c1:¬k<s.length:=by omega
  rw[e,L129_0_eq]
  simp[B129_0,C129_c0,go_sem,c1,digsB]
 |succ j ih =>
  intro k hk
  have hi:k<s.length:=by omega
  obtain⟨d1,d2⟩:=dec_hd hi
  rw[List.drop_eq_getElem_cons hi,L129_0_eq]
  have ex:∀(c:Int) (i:Int),POp.ev (.extract 2) [.tup [.bool true,.int .i64 i,.int .i32 c]]=some (.int .i32 c):=fun _ _=>rfl
  by_cases g:s[k].toNat<128
  ·rw[B129_0,C129_c0,d1 g]
   by_cases g1:48≤s[k].toNat∧s[k].toNat≤57
   ·have b1:Nat.ble 48 s[k].toNat=true:=Nat.ble_eq_true_of_le g1.1
    have b2:Nat.ble s[k].toNat 57=true:=Nat.ble_eq_true_of_le g1.2
    have c1:¬((s[k].toNat:Int)<48):=by omega
    have c2:¬((57:Int)<(s[k].toNat:Int)):=by omega
    simp only[digsB,digB,b1,b2,Bool.and_self,Bool.true_and]
    rw[←ih (k+1) (by omega)]
    simp only[go_sem,hi,decide_true,if_true,evC_of (ex _ _),C129_c1,c1,c2,decide_false,Bool.false_eq_true,if_false,gt_iff_lt]
    rfl
   ·have b1:digB s[k]=false:=by
     simp only[digB,Bool.and_eq_false_iff]
     by_cases q:48≤s[k].toNat
     ·exact .inr (Bool.eq_false_iff.2 fun e=>g1 ⟨q,Nat.le_of_ble_eq_true e⟩)
     ·exact .inl (Bool.eq_false_iff.2 fun e=>q (Nat.le_of_ble_eq_true e))
    simp only[digsB,b1,Bool.false_and,Bool.false_eq_true,if_false]
    by_cases c1:(s[k].toNat:Int)<48
    ·simp[go_sem,hi,evC_of (ex _ _),C129_c1,c1]
    ·have c2:(57:Int)<(s[k].toNat:Int):=by omega
     simp[go_sem,hi,evC_of (ex _ _),C129_c1,c1,c2]
  ·have q:=d2 (by omega)
   have b1:digB s[k]=false:=by
    simp only[digB,Bool.and_eq_false_iff]
    exact .inr (Bool.eq_false_iff.2 fun e=>by have:=Nat.le_of_ble_eq_true e;omega)
   simp only[digsB,b1,Bool.false_and,Bool.false_eq_true,if_false]
   rw[B129_0,C129_c0]
   generalize Utf8.decode ⟨⟨s⟩⟩ k=r at q
   have c1:¬((r.1:Int)<48):=by omega
   have c2:(57:Int)<(r.1:Int):=by omega
   simp[go_sem,hi,evC_of (ex _ _),C129_c1,c1,c2]
theorem idx0 {b:UInt8}{r:List UInt8}:POp.ev .idxStr [.str (b::r),.int .i64 0]=some (.int .u8 b.toNat):=rfl
theorem call129 (s:List UInt8) (m:IM):cw (.f 129) [.str s] m=some (.bool (isNumB s),m):=by
 apply F129_call
 unfold F129
 rw[loop130 s m s.length 0 (by omega),List.drop_zero]
 cases h:digsB s with
 |false=>simp[go_sem,isNumB,h]
 |true =>
  cases s with
  |nil=>simp[go_sem,C129_c2,isNumB,digsB]
  |cons b r =>
   by_cases g:b::r=[48]
   ·rw[g];simp[go_sem,C129_c2,isNumB,digsB,digB]
   ·have e1:((b::r)==[48])=false:=by simpa using g
    have e2:((b::r)==([]:List UInt8))=false:=rfl
    have e3:((b.toNat:Int) != 48)=decide (b≠48):=by
     by_cases q:b=48
     ·subst q;rfl
     ·have:(b.toNat:Int)≠48:=fun e=>q (UInt8.toNat_inj.1 (by show b.toNat=48;omega))
      simp[q,this]
    simp[go_sem,C129_c2,evC_of idx0,isNumB,h,e1,e2,e3,g]
theorem mupC_of {R:Type}{m:IM}{id:Nat}{d:EqD}{k v:IV}{es es':List (IV×IV)}(h:m.get id=.map es) (hu:updI d k v es=some es') (hp:(v.plain&&k.plain)=true) (K:IM→Option R) :
  mupC m d (.map id) k v K=K (setM m id (.map es')):=by
 unfold mupC
 simp only[h,hu,hp]
 rfl
theorem lkpC_some {R:Type}{m:IM}{id:Nat}{d:EqD}{z k v:IV}{es:List (IV×IV)}(h:m.get id=.map es) (hu:findI d k es=some (some v)) (K:IV→Option R) :
  lkpC m d z true (.map id) k K=K (.tup [v,.bool true]):=by
 unfold lkpC
 simp only[h,hu]
theorem lkpC_none {R:Type}{m:IM}{id:Nat}{d:EqD}{z k:IV}{es:List (IV×IV)}(h:m.get id=.map es) (hu:findI d k es=some none) (K:IV→Option R) :
  lkpC m d z true (.map id) k K=K (.tup [z,.bool false]):=by
 unfold lkpC
 simp only[h,hu]
theorem call130 (s:List UInt8) (n:Nat) (h:atoB 0 s=some n) (h0:s≠[]) (hl:s.length≤18) (m:IM):cw (.f 130) [.str s] m=some (.tup [.int .i64 n,.nilIface],m):=by
 cases s with
 |nil=>exact absurd rfl h0
 |cons b r =>
  unfold cw
  rw[callW_prim (p:=pAtoi) rfl]
  have hb:Nat.ble r.length 17=true:=Nat.ble_eq_true_of_le (by rw[List.length_cons] at hl;omega)
  simp[pAtoi,hb,h]
theorem slcT (s:List UInt8) (a:Nat) (h:a≤s.length):POp.ev (.sliceStr false true) [.str s,.int .i64 (a:Int)]=some (.str (s.take a)):=by
 have c2:(a:Int)≤(s.length:Int):=by omega
 have c3:(0:Int)≤(a:Int):=by omega
 simp[POp.ev,loHi,bnds,bnd,c2,c3]
theorem slcF (s:List UInt8) (a:Nat) (h:a≤s.length):POp.ev (.sliceStr true false) [.str s,.int .i64 (a:Int)]=some (.str (s.drop a)):=by
 have c2:(a:Int)≤(s.length:Int):=by omega
 have c3:(0:Int)≤(a:Int):=by omega
 have htk:(s.drop a).take (s.length-a)=s.drop a:=List.take_of_length_le (by simp)
 simp[POp.ev,loHi,bnds,bnd,c2,c3,htk]
theorem slc1 (c:UInt8) (d:List UInt8):POp.ev (.sliceStr false true) [.str (c::d),.int .i64 1]=some (.str [c]):=slcT (c::d) 1 (by simp)
theorem slc2 (c:UInt8) (d:List UInt8):POp.ev (.sliceStr true false) [.str (c::d),.int .i64 1]=some (.str d):=slcF (c::d) 1 (by simp)
def ui0:List (IV×IV):=[(.str [117],.bool false),(.str [105],.bool true)]
theorem ui_find (c:UInt8):findI .str (.str [c]) ui0=some (if c=117 then some (.bool false) else if c=105 then some (.bool true) else none):=by
 by_cases h1:c=117
 ·subst h1;rfl
 ·by_cases h2:c=105
  ·subst h2;rfl
  ·have q1:(([c]:List UInt8)==[117])=false:=by simpa using h1
   have q2:(([c]:List UInt8)==[105])=false:=by simpa using h2
   simp only[findI,ui0,keyEq]
   rw[if_neg h1,if_neg h2,q1,q2]
theorem eq2 (n:Nat) (b:Bool):POp.ev (.eqAgg false [(0,.int),(1,.bool)]) [.agg [.int .i64 (n:Int),.bool b],.agg [.int .i64 0,.bool true]]=some (.bool (decide (n=0)&&b)):=by
 have h:(((n:Int)==0))=decide (n=0):=by
  by_cases q:n=0
  ·subst q;rfl
  ·have:(n:Int)≠0:=by omega
   simp[q,this]
 cases b<;>by_cases q:n=0<;>simp[POp.ev,eqPlan,eqS,h,q]
def tyS (s:List UInt8):List UInt8:=if (tyR s).1=0 then s else []
theorem call59 (s:List UInt8) (m:IM):cw (.f 59) [.str s] m=some (.tup [.agg [.int .i64 (tyR s).2.1,.bool (tyR s).2.2,.str (tyS s)],.int .i64 (tyR s).1],m):=by
 have hm:(pushM m (.map [])).get m.size=.map []:=get_pushM _ _
 have hs1:setM (pushM m (.map [])) m.size (.map [(.str [117],.bool false)])=pushM m (.map [(.str [117],.bool false)]):=setM_pushM _ _ _
 have hm1:(pushM m (.map [(.str [117],.bool false)])).get m.size=.map [(.str [117],.bool false)]:=get_pushM _ _
 have hs2:setM (pushM m (.map [(.str [117],.bool false)])) m.size (.map ui0)=pushM m (.map ui0):=setM_pushM _ _ _
 have hm2:(pushM m (.map ui0)).get m.size=.map ui0:=get_pushM _ _
 have hset:∀(v:IV),v.refsDeep=some 0→settle m (pushM m (.map ui0)) v=some (v,m):=fun v hv=>settle_push hv
 have u1:=fun (R:Type) (K:IM→Option R)=>mupC_of (R:=R) (d:=.str) (k:=.str [117]) (v:=.bool false) hm (es':=[(.str [117],.bool false)]) rfl rfl K
 have u2:=fun (R:Type) (K:IM→Option R)=>mupC_of (R:=R) (d:=.str) (k:=.str [105]) (v:=.bool true) hm1 (es':=ui0) rfl rfl K
 apply F59_call
 cases s with
 |nil =>
  have l1:=fun (R:Type) (K:IV→Option R)=>lkpC_none (R:=R) (d:=.str) (z:=.bool false) (k:=.str []) hm2 rfl K
  simp only[F59,C59_c0,C59_c1,go_sem,u1,u2,hs1,hs2,l1,beq_self_eq_true,Bool.not_true,Bool.false_eq_true,if_false,Bool.not_false,if_true]
  exact hset _ rfl
 |cons c d =>
  have e0:((c::d)==([]:List UInt8))=false:=rfl
  by_cases h1:c=117∨c=105
  ·have hf:findI .str (.str [c]) ui0=some (some (.bool (decide (c=105)))):=by
    rw[ui_find]
    rcases h1 with rfl | rfl<;>rfl
   have l1:=fun (R:Type) (K:IV→Option R)=>lkpC_some (R:=R) (d:=.str) (z:=.bool false) (k:=.str [c]) hm2 hf K
   have h130:=fun (R:Type) (K:IV→IM→Option R)=>callC_cw (call129 d (pushM m (.map ui0))) (by simp[go_sem]) K
   by_cases h2:isNumB d=true
   ·by_cases h3:d.length≤3
    ·have c3:¬((d.length:Int)>3):=by omega
     obtain⟨hat,hlt⟩:=valB_lt (isNumB_digs h2) h3
     have hne:d≠[]:=by
      intro e;subst e;cases h2
     have h131:=fun (R:Type) (K:IV→IM→Option R)=>callC_cw (call130 d (valB d) hat hne (by omega) (pushM m (.map ui0))) (by simp[go_sem]) K
     have heq:POp.ev (.eqAgg false [(0,.int),(1,.bool)]) [.agg [.int .i64 (valB d:Int),.bool (decide (c=105))],.agg [.int .i64 0,.bool true]]=some (.bool (decide (valB d=0∧c=105))):=by
      rw[eq2]
      congr 2
      simp[Bool.decide_and]
     by_cases h4:64<valB d
     ·have c4:((valB d:Int)>64):=by omega
      have ht:tyR (c::d)=(3,0,false):=by
       simp only[tyR]
       rw[if_pos ⟨h1,h2,h3⟩,if_pos (.inl h4)]
      simp only[F59,C59_c0,C59_c1,C59_c2,go_sem,u1,u2,hs1,hs2,l1,e0,evC_of (slc1 c d),evC_of (slc2 c d),h130,h2,h131,c3,c4,decide_true,decide_false,Bool.not_true,Bool.false_eq_true,if_false,Bool.not_false,if_true,tyS,ht]
      exact hset _ rfl
     ·have c4:¬((valB d:Int)>64):=by omega
      by_cases h5:valB d=0∧c=105
      ·have ht:tyR (c::d)=(3,0,false):=by
        simp only[tyR]
        rw[if_pos ⟨h1,h2,h3⟩,if_pos (.inr h5)]
       rw[decide_eq_true h5] at heq
       simp only[F59,C59_c0,C59_c1,C59_c2,go_sem,u1,u2,hs1,hs2,l1,e0,evC_of (slc1 c d),evC_of (slc2 c d),h130,h2,h131,c3,c4,evC_of heq,decide_true,decide_false,Bool.not_true,Bool.false_eq_true,if_false,Bool.not_false,if_true,tyS,ht]
       exact hset _ rfl
      ·rw[decide_eq_false h5] at heq
       have ht:tyR (c::d)=(0,(valB d:Int),decide (c=105)):=by
        simp only[tyR]
        rw[if_pos ⟨h1,h2,h3⟩,if_neg (fun e=>e.elim h4 h5)]
       simp only[F59,C59_c0,C59_c1,C59_c2,go_sem,u1,u2,hs1,hs2,l1,e0,evC_of (slc1 c d),evC_of (slc2 c d),h130,h2,h131,c3,c4,evC_of heq,decide_true,decide_false,Bool.not_true,Bool.false_eq_true,if_false,Bool.not_false,if_true,tyS,ht]
       exact hset _ rfl
    ·have c3:((d.length:Int)>3):=by omega
     have ht:tyR (c::d)=(6,0,false):=by
      simp only[tyR]
      rw[if_neg (fun e=>h3 e.2.2)]
     simp only[F59,C59_c0,C59_c1,go_sem,u1,u2,hs1,hs2,l1,e0,evC_of (slc1 c d),evC_of (slc2 c d),h130,h2,c3,decide_true,Bool.not_true,Bool.false_eq_true,if_false,Bool.not_false,if_true,tyS,ht]
     exact hset _ rfl
   ·have h2':isNumB d=false:=Bool.eq_false_iff.2 h2
    have ht:tyR (c::d)=(6,0,false):=by
     simp only[tyR]
     rw[if_neg (fun e=>h2 e.2.1)]
    simp only[F59,C59_c0,C59_c1,go_sem,u1,u2,hs1,hs2,l1,e0,evC_of (slc1 c d),evC_of (slc2 c d),h130,h2',Bool.not_true,Bool.false_eq_true,if_false,Bool.not_false,if_true,tyS,ht]
    exact hset _ rfl
  ·have hf:findI .str (.str [c]) ui0=some none:=by
    rw[ui_find,if_neg (fun e=>h1 (.inl e)),if_neg (fun e=>h1 (.inr e))]
   have l1:=fun (R:Type) (K:IV→Option R)=>lkpC_none (R:=R) (d:=.str) (z:=.bool false) (k:=.str [c]) hm2 hf K
   have ht:tyR (c::d)=(6,0,false):=by
    simp only[tyR]
    rw[if_neg (fun e=>h1 e.1)]
   simp only[F59,C59_c0,C59_c1,go_sem,u1,u2,hs1,hs2,l1,e0,evC_of (slc1 c d),evC_of (slc2 c d),Bool.not_true,Bool.false_eq_true,if_false,Bool.not_false,if_true,tyS,ht]
   exact hset _ rfl
theorem call31 (s:List UInt8) (m:IM):cw (.f 31) [.str s] m=some (.tup [.int .i64 (tyR s).2.1,.bool (tyR s).2.2,.int .i64 (tyR s).1],m):=by
 have h:=fun (R:Type) (K:IV→IM→Option R)=>callC_cw (call59 s m) (by simp[go_sem]) K
 apply F31_call
 simp[F31,go_sem,h]
theorem call13 (s:List UInt8) (m:IM):cw (.f 13) [.str s] m=some (.tup [.agg [.int .i64 (tyR s).2.1,.bool (tyR s).2.2],.bool (tyOk s)],m):=by
 have h:=fun (R:Type) (K:IV→IM→Option R)=>callC_cw (call31 s m) (by simp[go_sem]) K
 have e:((tyR s).1==0)=tyOk s:=by
  simp only[tyOk]
  by_cases q:(tyR s).1=0<;>simp[q]
 apply F13_call
 simp[F13,go_sem,h,e]
theorem tyR_bad (s:List UInt8) (h:¬(tyR s).1=0):(tyR s).2=(0,false):=by
 cases s with
 |nil=>rfl
 |cons c d =>
  by_cases h1:(c=117∨c=105)∧isNumB d=true∧d.length≤3
  ·by_cases h2:64<valB d∨valB d=0∧c=105
   ·simp only[tyR];rw[if_pos h1,if_pos h2]
   ·simp only[tyR] at h;rw[if_pos h1,if_neg h2] at h;exact absurd rfl h
  ·simp only[tyR];rw[if_neg h1]
theorem call14 (b:Bool) (e:Int) (m:IM):cw (.f 14) [.bool b,.int .i64 e] m=some (.int .i64 (if b then e else 0),m):=by
 apply F14_call
 cases b<;>simp[F14,go_sem]
theorem flt0:POp.ev (.idxArr 2 true 2) [.agg [.str [102,51,50],.int .i64 32,.str [102,54,52],.int .i64 64],.int .i64 0]=some (.agg [.str [102,51,50],.int .i64 32]):=rfl
theorem flt1:POp.ev (.idxArr 2 true 2) [.agg [.str [102,51,50],.int .i64 32,.str [102,54,52],.int .i64 64],.int .i64 1]=some (.agg [.str [102,54,52],.int .i64 64]):=rfl
theorem wr1:IntKind.i64.wrap (0+1)=1:=rfl
theorem wr2:IntKind.i64.wrap (1+1)=2:=rfl
theorem call22 (s:List UInt8) (m:IM):cw (.f 22) [.str s] m=some (.bool (isFlB s),m):=by
 have d0:decide ((0:Int)<2)=true:=rfl
 have d1:decide ((1:Int)<2)=true:=rfl
 have d2:decide ((2:Int)<2)=false:=rfl
 apply F22_call
 unfold F22
 by_cases h1:s=[102,51,50]
 ·subst h1
  rw[L22_0_eq]
  simp only[B22_0,go_sem,d0,evC_of flt0,beq_self_eq_true,if_true]
  rfl
 ·have e1:(([102,51,50]:List UInt8)==s)=false:=by simpa using fun e=>h1 e.symm
  have f1:L22_0 s [102,51,50] 32 [102,54,52] 64 0 m=L22_0 s [102,51,50] 32 [102,54,52] 64 1 m:=by
   rw[L22_0_eq]
   simp only[B22_0,go_sem,d0,evC_of flt0,e1,if_true,Bool.false_eq_true,if_false,wr1]
   rfl
  rw[f1,L22_0_eq]
  by_cases h2:s=[102,54,52]
  ·subst h2
   simp only[B22_0,go_sem,d1,evC_of flt1,beq_self_eq_true,if_true]
   rfl
  ·have e2:(([102,54,52]:List UInt8)==s)=false:=by simpa using fun e=>h2 e.symm
   have f2:nxt f22_0 (B22_0 s [102,51,50] 32 [102,54,52] 64 1 m)=L22_0 s [102,51,50] 32 [102,54,52] 64 2 m:=by
    simp only[B22_0,go_sem,d1,evC_of flt1,e2,if_true,Bool.false_eq_true,if_false,wr2]
    rfl
   have hf:isFlB s=false:=by simp[isFlB,h1,h2]
   rw[f2,L22_0_eq,hf]
   simp only[B22_0,go_sem,d2,Bool.false_eq_true,if_false]
   rfl
def wid0:List (IV×IV):=[(.str [112,116,114],.int .i64 64),(.str [102,51,50],.int .i64 32),(.str [102,54,52],.int .i64 64)]
theorem wid_find (s:List UInt8):findI .str (.str s) wid0=some (if s=[112,116,114] then some (.int .i64 64) else if s=[102,51,50] then some (.int .i64 32) else if s=[102,54,52] then some (.int .i64 64) else none):=by
 by_cases h1:s=[112,116,114]
 ·subst h1;rfl
 ·by_cases h2:s=[102,51,50]
  ·subst h2;rfl
  ·by_cases h3:s=[102,54,52]
   ·subst h3;rfl
   ·have q1:(s==[112,116,114])=false:=by simpa using h1
    have q2:(s==[102,51,50])=false:=by simpa using h2
    have q3:(s==[102,54,52])=false:=by simpa using h3
    simp only[findI,wid0,keyEq]
    rw[if_neg h1,if_neg h2,if_neg h3,q1,q2,q3]
theorem call7 (s:List UInt8) (m:IM):cw (.f 7) [.str s] m=some (.tup [.int .i64 (widR s).1,.int .i64 (widR s).2],m):=by
 have d0:decide ((0:Int)<2)=true:=rfl
 have d1:decide ((1:Int)<2)=true:=rfl
 have d2:decide ((2:Int)<2)=false:=rfl
 have hg:∀es,(pushM m (.map es)).get m.size=.map es:=fun es=>get_pushM _ _
 have hs:∀es es',setM (pushM m (.map es)) m.size (.map es')=pushM m (.map es'):=fun _ _=>setM_pushM _ _ _
 have hset:∀es (v:IV),v.refsDeep=some 0→settle m (pushM m (.map es)) v=some (v,m):=fun es v hv=>settle_push hv
 have u0:=fun (R:Type) (K:IM→Option R)=>mupC_of (R:=R) (d:=.str) (k:=.str [112,116,114]) (v:=.int .i64 64) (hg []) (es':=[(.str [112,116,114],.int .i64 64)]) rfl rfl K
 have u1:=fun (R:Type) (K:IM→Option R)=>mupC_of (R:=R) (d:=.str) (k:=.str [102,51,50]) (v:=.int .i64 32) (hg [(.str [112,116,114],.int .i64 64)]) (es':=[(.str [112,116,114],.int .i64 64),(.str [102,51,50],.int .i64 32)]) rfl rfl K
 have u2:=fun (R:Type) (K:IM→Option R)=>mupC_of (R:=R) (d:=.str) (k:=.str [102,54,52]) (v:=.int .i64 64) (hg [(.str [112,116,114],.int .i64 64),(.str [102,51,50],.int .i64 32)]) (es':=wid0) rfl rfl K
 have kp:∀(R:Type) (X:Option R),keepC (.map m.size) [] X=X:=fun _ _=>rfl
 have l0:L7_0 s (.map m.size) [102,51,50] 32 [102,54,52] 64 0 (pushM m (.map [(.str [112,116,114],.int .i64 64)]))=some (.exit 0,[.str s,.map m.size],[],pushM m (.map wid0)):=by
  have f1:L7_0 s (.map m.size) [102,51,50] 32 [102,54,52] 64 0 (pushM m (.map [(.str [112,116,114],.int .i64 64)]))=L7_0 s (.map m.size) [102,51,50] 32 [102,54,52] 64 1 (pushM m (.map [(.str [112,116,114],.int .i64 64),(.str [102,51,50],.int .i64 32)])):=by
   rw[L7_0_eq]
   simp only[B7_0,go_sem,d0,evC_of flt0,u1,hs,kp,if_true,wr1]
   rfl
  have f2:L7_0 s (.map m.size) [102,51,50] 32 [102,54,52] 64 1 (pushM m (.map [(.str [112,116,114],.int .i64 64),(.str [102,51,50],.int .i64 32)]))=L7_0 s (.map m.size) [102,51,50] 32 [102,54,52] 64 2 (pushM m (.map wid0)):=by
   rw[L7_0_eq]
   simp only[B7_0,go_sem,d1,evC_of flt1,u2,hs,kp,if_true,wr2]
   rfl
  rw[f1,f2,L7_0_eq]
  simp only[B7_0,go_sem,d2,Bool.false_eq_true,if_false]
 apply F7_call
 by_cases hk:s=[112,116,114]∨s=[102,51,50]∨s=[102,54,52]
 ·have hf:findI .str (.str s) wid0=some (some (.int .i64 (widR s).1)):=by
   rw[wid_find]
   rcases hk with rfl | rfl | rfl<;>rfl
  have h0:(widR s).2=0:=by rcases hk with rfl | rfl | rfl<;>rfl
  have l1:=fun (R:Type) (K:IV→Option R)=>lkpC_some (R:=R) (d:=.str) (z:=.int .i64 0) (k:=.str s) (hg wid0) hf K
  simp only[F7,go_sem,u0,hs,l0,l1,h0,if_true]
  exact hset _ _ rfl
 ·have h1:¬s=[112,116,114]:=fun e=>hk (.inl e)
  have h2:¬s=[102,51,50]:=fun e=>hk (.inr (.inl e))
  have h3:¬s=[102,54,52]:=fun e=>hk (.inr (.inr e))
  have hf:findI .str (.str s) wid0=some none:=by
   rw[wid_find,if_neg h1,if_neg h2,if_neg h3]
  have l1:=fun (R:Type) (K:IV→Option R)=>lkpC_none (R:=R) (d:=.str) (z:=.int .i64 0) (k:=.str s) (hg wid0) hf K
  have c28:=fun (R:Type) (K:IV→IM→Option R)=>callC_cw (call13 s (pushM m (.map wid0))) (by simp[go_sem]) K
  have c35:=fun (R:Type) (K:IV→IM→Option R)=>callC_cw (call14 (!tyOk s) 12 (pushM m (.map wid0))) (by simp[go_sem]) K
  have hw:widR s=((tyR s).2.1,if (!tyOk s)=true then 12 else 0):=by
   unfold widR
   rw[if_neg h1,if_neg h2,if_neg h3]
   by_cases q:(tyR s).1=0
   ·simp[tyOk,q]
   ·have:(tyR s).2.1=0:=by rw[tyR_bad s q]
    simp[tyOk,q,this]
  simp only[F7,go_sem,u0,hs,l0,l1,c28,c35,hw,Bool.false_eq_true,if_false]
  exact hset _ _ rfl
theorem ix2 (a b:IV) (i:Nat) (h:i<2):POp.ev (.indexS 1) [.sl [a,b] 2,.int .i64 (i:Int)]=some (.pI [a,b] i):=by
 have c1:(i:Int)<2:=by omega
 have c2:(0:Int)≤(i:Int):=by omega
 simp[POp.ev,c1,c2]
theorem call24 (a b:Int) (m:IM):cw (.f 24) [.sl [.int .i64 a,.int .i64 b] 2] m=some (.int .i64 (if a=0 then b else a),m):=by
 have d0:decide ((0:Int)<2)=true:=rfl
 have d1:decide ((1:Int)<2)=true:=rfl
 have d2:decide ((2:Int)<2)=false:=rfl
 have hlen:POp.ev .lenSlice [.sl [.int .i64 a,.int .i64 b] 2]=some (.int .i64 2):=rfl
 have i0:POp.ev (.indexS 1) [.sl [.int .i64 a,.int .i64 b] 2,.int .i64 0]=some (.pI [.int .i64 a,.int .i64 b] 0):=ix2 _ _ 0 (by decide)
 have i1:POp.ev (.indexS 1) [.sl [.int .i64 a,.int .i64 b] 2,.int .i64 1]=some (.pI [.int .i64 a,.int .i64 b] 1):=ix2 _ _ 1 (by decide)
 have k0:=fun (R:Type) (K:IV→Option R)=>cutC_false (cs:=[.int .i64 a,.int .i64 b]) (off:=0) (n:=1) (v:=.int .i64 a) rfl K
 have k1:=fun (R:Type) (K:IV→Option R)=>cutC_false (cs:=[.int .i64 a,.int .i64 b]) (off:=1) (n:=1) (v:=.int .i64 b) rfl K
 have nl:∀(R:Type) (X:Option R),notL (.sl [.int .i64 a,.int .i64 b] 2) X=X:=fun _ _=>rfl
 apply F24_call
 unfold F24
 rw[evC_of hlen,asI_mk,nl]
 by_cases h1:a=0
 ·subst h1
  have f1:L24_0 (.sl [.int .i64 0,.int .i64 b] 2) 2 0 m=L24_0 (.sl [.int .i64 0,.int .i64 b] 2) 2 1 m:=by
   rw[L24_0_eq]
   simp only[B24_0,go_sem,d0,evC_of i0,k0,nl,bne_self_eq_false,Bool.false_eq_true,if_false,if_true,wr1]
   rfl
  rw[f1,L24_0_eq,if_pos rfl]
  by_cases h2:b=0
  ·subst h2
   have f2:nxt f24_0 (B24_0 (.sl [.int .i64 0,.int .i64 0] 2) 2 1 m)=L24_0 (.sl [.int .i64 0,.int .i64 0] 2) 2 2 m:=by
    simp only[B24_0,go_sem,d1,evC_of i1,k1,nl,bne_self_eq_false,Bool.false_eq_true,if_false,if_true,wr2]
    rfl
   rw[f2,L24_0_eq]
   simp only[B24_0,go_sem,d2,Bool.false_eq_true,if_false,if_true]
  ·have e2:(b != 0)=true:=by simpa using h2
   simp only[B24_0,go_sem,d1,evC_of i1,k1,e2,if_true,reduceCtorEq,if_false]
 ·have e1:(a != 0)=true:=by simpa using h1
  rw[L24_0_eq,if_neg h1]
  simp only[B24_0,go_sem,d0,evC_of i0,k0,e1,if_true,reduceCtorEq,if_false]
theorem widR_ok (s:List UInt8):((widR s).2=0↔(tyOk s=true∨isFlB s=true∨s=[112,116,114])):=by
 unfold widR
 by_cases h1:s=[112,116,114]
 ·rw[if_pos h1];simp[h1]
 ·by_cases h2:s=[102,51,50]
  ·rw[if_neg h1,if_pos h2];simp[isFlB,h2]
  ·by_cases h3:s=[102,54,52]
   ·rw[if_neg h1,if_neg h2,if_pos h3];simp[isFlB,h3]
   ·rw[if_neg h1,if_neg h2,if_neg h3]
    by_cases h4:(tyR s).1=0
    ·simp[tyOk,h4]
    ·simp[tyOk,h4,h1,isFlB,h2,h3]
theorem scal_ok (s:List UInt8):(tyOk s||isFlB s)=(decide ((widR s).2=0)&&decide (¬s=[112,116,114])):=by
 have h:=widR_ok s
 by_cases q:s=[112,116,114]
 ·subst q;rfl
 ·by_cases e:(widR s).2=0
  ·rcases h.1 e with g | g | g
   ·simp[e,q,g]
   ·simp[e,q,g]
   ·exact absurd g q
  ·have g1:tyOk s=false:=Bool.eq_false_iff.2 fun g=>e (h.2 (.inl g))
   have g2:isFlB s=false:=Bool.eq_false_iff.2 fun g=>e (h.2 (.inr (.inl g)))
   simp[e,g1,g2]
theorem call25 (op:Int) (f t:List UInt8) (m:IM):cw (.f 25) [.int .i64 op,.str f,.str t] m=some (.bool (convB op f t),m):=by
 have a28:=fun (s:List UInt8) (R:Type) (K:IV→IM→Option R)=>callC_cw (call13 s m) (by simp[go_sem]) K
 have a9:=fun (s:List UInt8) (R:Type) (K:IV→IM→Option R)=>callC_cw (call7 s m) (by simp[go_sem]) K
 have a30:=fun (s:List UInt8) (R:Type) (K:IV→IM→Option R)=>callC_cw (call22 s m) (by simp[go_sem]) K
 have a29:=fun (a b:Int) (R:Type) (K:IV→IM→Option R)=>callC_cw (call24 a b m) (by rfl) K
 apply F25_call
 unfold F25
 simp only[a28,a9,go_sem]
 by_cases h38:op=38
 ·subst h38
  cases h1:tyOk f<;>simp[C25_c0,C25_c1,go_sem,convB,h1]
 by_cases h39:op=39
 ·subst h39
  cases h1:tyOk f<;>simp[C25_c0,C25_c1,go_sem,convB,h1]
 have b38:(op==38)=false:=by simpa using h38
 have b39:(op==39)=false:=by simpa using h39
 have n1:¬(op=38∨op=39):=by omega
 by_cases h40:op=40
 ·subst h40
  cases h1:tyOk f<;>cases h2:tyOk t<;>simp[C25_c0,C25_c2,go_sem,convB,h1,h2]
 have b40:(op==40)=false:=by simpa using h40
 by_cases h41:op=41
 ·subst h41
  have p:∀(x y:Bool),(x && !y)=true↔x=true∧y=false:=by decide
  have h0:(if (widR f).2=0 then (widR t).2 else (widR f).2)=0↔(widR f).2=0∧(widR t).2=0:=by
   by_cases q:(widR f).2=0<;>simp[q]
  by_cases e1:(widR f).2=0
  ·by_cases e2:(widR t).2=0
   ·by_cases w:(widR f).1=(widR t).1
    ·by_cases q1:f=[112,116,114]
     ·simp[C25_c0,C25_c3,go_sem,convB,scal_ok,a29,e1,e2,w,q1]
     ·by_cases q2:t=[112,116,114]<;>simp[C25_c0,C25_c3,go_sem,convB,scal_ok,a29,e1,e2,w,q1,q2]
    ·simp[C25_c0,C25_c3,go_sem,convB,scal_ok,a29,e1,e2,w]
   ·simp[C25_c0,C25_c3,go_sem,convB,scal_ok,a29,e1,e2]
  ·simp[C25_c0,C25_c3,go_sem,convB,scal_ok,a29,e1]
 have b41:(op==41)=false:=by simpa using h41
 by_cases h42:op=42
 ·subst h42
  cases h1:tyOk f<;>simp[C25_c0,C25_c4,go_sem,convB,h1,a30]
 have b42:(op==42)=false:=by simpa using h42
 have n2:¬(op=40):=h40
 by_cases h43:op=43
 ·subst h43
  cases h1:isFlB f<;>simp[C25_c0,C25_c5,C25_c6,go_sem,convB,h1,a30]
 have b43:(op==43)=false:=by simpa using h43
 by_cases h44:op=44
 ·subst h44
  cases h1:isFlB f<;>simp[C25_c0,C25_c5,C25_c6,go_sem,convB,h1,a30]
 have b44:(op==44)=false:=by simpa using h44
 by_cases h45:op=45
 ·subst h45
  cases h1:isFlB f<;>cases h2:isFlB t<;>simp[C25_c0,C25_c5,C25_c7,go_sem,convB,h1,h2,a30]
  by_cases q:f=t<;>simp[q]
 have b45:(op==45)=false:=by simpa using h45
 have n3:¬(op=43∨op=44):=by omega
 simp[C25_c0,C25_c5,go_sem,convB,b38,b39,b40,b41,b42,b43,b44,b45,n1,h38,h39,h40,h41,h42,h43,h44,n3,h45]
abbrev m0:IM:=⟨[],0⟩
def rowsQ:IV:=match (sem tab prims 400).call (.f 33) [] ⟨[],0⟩ with
 |some (v,⟨[],0⟩)=>v
 |_=>.undef
abbrev RW:=Int×Int×IV×IV
def blkL:List IV→Option (List RW)
 |[]=>some []
 |.int .i64 a :: .int .i64 b::k::d::r=>(blkL r).map ((a,b,k,d) :: ·)
 |_=>none
def flatB:List RW→List IV
 |[]=>[]
 |(a,b,k,d)::r=>.int .i64 a :: .int .i64 b::k::d::flatB r
theorem blkL_flat:∀(l:List IV) {rs:List RW},blkL l=some rs→l=flatB rs
 |[],rs,h=>by
  simp only[blkL,Option.some.injEq] at h
  subst h;rfl
 |.int .i64 a :: .int .i64 b::k::d::r,rs,h=>by
  simp only[blkL,Option.map_eq_some_iff] at h
  obtain⟨t,h1,rfl⟩:=h
  rw[flatB,←blkL_flat r h1]
 |[_],_,h=>by simp[blkL] at h
 |[_,_],_,h=>by simp[blkL] at h
 |[_,_,_],_,h=>by simp[blkL] at h
 |a::b::k::d::r,rs,h=>by
  unfold blkL at h
  split at h
  ·rename_i e;cases e
  ·rename_i a' b' k' d' r' e
   cases e
   obtain⟨t,h1,rfl⟩:=Option.map_eq_some_iff.1 h
   rw[flatB,←blkL_flat r h1]
  ·cases h
def rsQ:List RW:=match rowsQ with
 |.sl l _=>(blkL l).getD []
 |_=>[]
def kdI:IV→Option (List Int)
 |.nilSlice=>some []
 |.sl l n=>match Nat.beq l.length n with
  |true=>l.mapM fun | .int .i64 k=>some k | _=>none
  |false=>none
 |_=>none
def tabL:List (Int×Int×List Int) :=
 [(6,2,[0]),(7,2,[0]),(8,2,[0]),(9,2,[]),(10,2,[]),(11,2,[]),(12,2,[]),(13,2,[]),(14,2,[]),(15,3,[]),(16,3,[]),(17,3,[]),(18,2,[0,3]),(19,2,[0,3]),(20,2,[0,3,4]),(21,2,[3]),(22,2,[3]),(23,2,[1]),(24,2,[1,2]),(25,2,[1]),(26,2,[]),(27,2,[]),(28,2,[]),(29,1,[]),(30,1,[0]),(31,1,[]),(32,2,[]),(33,2,[]),(34,3,[]),(35,3,[]),(36,3,[]),(37,3,[]),(46,1,[]),(47,1,[]),(48,1,[]),(49,1,[])]
def rowOk (r:RW) (t:Int×Int×List Int):Bool:=decide (r.1=t.1)&&(decide (r.2.1=t.2.1)&&(decide (kdI r.2.2.1=some t.2.2)&&(decide (r.2.2.1.refs=some 0)&&decide (r.2.2.2.refs=some 0))))
def rowsOk:List RW→List (Int×Int×List Int)→Bool
 |[],[]=>true
 |r::rs,t::ts=>rowOk r t&&rowsOk rs ts
 |_,_=>false
def isRun:Option (IV×IM)→Bool
 |some (_,⟨[],0⟩)=>true
 |_=>false
def chkQ:Bool:=match rowsQ with
 |.sl l n=>Nat.beq n 36&&((blkL l).isSome&&rowsOk rsQ tabL)
 |_=>false
theorem rows_run:isRun ((sem tab prims 400).call (.f 33) [] ⟨[],0⟩)=true:=by kernel_rfl
theorem rows_chk:chkQ=true:=by kernel_rfl
theorem rows63:cw (.f 33) [] m0=some (rowsQ,m0):=by
 have h:=rows_run
 refine callW_iff.2 ⟨400,?_⟩
 unfold rowsQ
 cases hq:(sem tab prims 400).call (.f 33) [] ⟨[],0⟩ with
 |none=>rw[hq] at h;cases h
 |some p =>
  rw[hq] at h
  unfold isRun at h
  split at h
  ·rename_i e;cases e;rfl
  ·cases h
theorem rows_is:rowsQ=.sl (flatB rsQ) 36∧rowsOk rsQ tabL=true:=by
 have h:=rows_chk
 unfold chkQ at h
 split at h
 ·rename_i l n e
  simp only[Bool.and_eq_true] at h
  obtain⟨h1,h2,h3⟩:=h
  obtain⟨rs,h4⟩:=Option.isSome_iff_exists.1 h2
  have hr:rsQ=rs:=by unfold rsQ;rw[e];simp only[h4,Option.getD_some]
  refine⟨?_,h3⟩
  rw[hr,←blkL_flat l h4,←Nat.eq_of_beq_eq_true h1]
  exact e
 ·cases h
def fnd (rs:List RW) (op:Int):Option RW:=rs.find? fun r=>decide (r.1=op)
def fiN:List RW→Int→Nat→Option Nat
 |[],_,_=>none
 |r::rs,op,i=>if r.1=op then some i else fiN rs op (i+1)
theorem fiN_spec (op:Int):∀(rs:List RW) (i:Nat),(fiN rs op i=none∧fnd rs op=none)∨∃q r,fiN rs op i=some (i+q)∧rs[q]?=some r∧fnd rs op=some r
 |[],i=>.inl ⟨rfl,rfl⟩
 |r::rs,i=>by
  by_cases h:r.1=op
  ·exact .inr ⟨0,r,by rw[fiN,if_pos h];rfl,rfl,by simp[fnd,h]⟩
  ·rcases fiN_spec op rs (i+1) with ⟨h1,h2⟩ | ⟨q,r',h1,h2,h3⟩
   ·exact .inl ⟨by rw[fiN,if_neg h];exact h1,by simpa[fnd,h] using h2⟩
   ·refine .inr ⟨q+1,r',?_,by simpa using h2,by simpa[fnd,h] using h3⟩
    rw[fiN,if_neg h,h1]
    congr 1
    omega
theorem flatB_len:∀rs:List RW,(flatB rs).length=4*rs.length
 |[]=>rfl
 |(a,b,k,d)::r=>by simp only[flatB,List.length_cons,flatB_len r];omega
def rowC (r:RW):List IV:=[.int .i64 r.1,.int .i64 r.2.1,r.2.2.1,r.2.2.2]
theorem flatB_drop:∀(rs:List RW) (i:Nat),(flatB rs).drop (i*4)=flatB (rs.drop i)
 |[],i=>by simp[flatB]
 |r::rs,0=>by simp
 |(a,b,k,d)::rs,i+1=>by
  rw[List.drop_succ_cons,←flatB_drop rs i,show (i+1)*4=i*4+4 by omega,flatB]
  simp[List.drop_succ_cons]
theorem flatB_cut {rs:List RW}{i:Nat}{r:RW}(h:rs[i]?=some r):cut (flatB rs) (i*4) 4=some (rowC r):=by
 obtain⟨hi,e⟩:=List.getElem?_eq_some_iff.1 h
 have hl:=flatB_len rs
 have:rs.drop i=r::rs.drop (i+1):=by rw[List.drop_eq_getElem_cons hi,e]
 unfold cut
 rw[if_pos (by omega),flatB_drop,this]
 obtain⟨a,b,k,d⟩:=r
 simp[flatB,rowC]
theorem refs_pI (r:List IV) (o:Nat):(IV.pI r o).refs=some 0:=id rfl
theorem cells_pI (r:List IV) (o:Nat):(IV.pI r o).cells=[.pI r o]:=id rfl
theorem call35 (r:RW) (op:Int) (m:IM) (hk:r.2.2.1.refs=some 0) (hd:r.2.2.2.refs=some 0):cw (.f 35) [.agg (rowC r),.pI [.int .i64 op] 0] m=some (.bool (decide (r.1=op)),m):=by
 have k0:=fun (R:Type) (K:IV→Option R)=>cutC_false (cs:=[.int .i64 op]) (off:=0) (n:=1) (v:=.int .i64 op) rfl K
 have e:(r.1==op)=decide (r.1=op):=rfl
 apply F35_call
 simp only[F35,go_sem,refC_of hk,refC_of hd,k0,e]
theorem idxR (l:List IV) (n i:Nat) (h:i<n):POp.ev (.indexS 4) [.sl l n,.int .i64 (i:Int)]=some (.pI l (i*4)):=by
 have c1:(i:Int)<(n:Int):=by omega
 have c2:(0:Int)≤(i:Int):=by omega
 simp[POp.ev,c1,c2]
theorem loop64 (rs:List RW) (hn:rs.length≤1000) (hR:∀r∈rs,r.2.2.1.refs=some 0∧r.2.2.2.refs=some 0) (op:Int) (m:IM):∀(j i:Nat),rs.length=i+j →
  L34_0 (.sl (flatB rs) rs.length) (.func 35 [] [.pI [.int .i64 op] 0]) rs.length i m=some (match fiN (rs.drop i) op i with
   |some p=>(.ret,[.int .i64 (p:Int)],[],m)
   |none=>(.exit 0,[],[],m)):=by
 intro j
 induction j with
 |zero =>
  intro i hk
  have e:rs.drop i=[]:=List.drop_eq_nil_iff.2 (by omega)
  have c1:¬(i:Int)<(rs.length:Int):=by omega
  rw[e,L34_0_eq]
  simp[B34_0,go_sem,c1,fiN]
 |succ j ih =>
  intro i hk
  have hi:i<rs.length:=by omega
  have c1:(i:Int)<(rs.length:Int):=by omega
  obtain⟨hk1,hd1⟩:=hR rs[i] (List.getElem_mem hi)
  have hcut:=flatB_cut (rs:=rs) (i:=i) (r:=rs[i]) (List.getElem?_eq_getElem hi)
  have h65:=call35 rs[i] op m hk1 hd1
  have hc:=fun (R:Type) (K:IV→IM→Option R)=>callC_cw h65 (by simp[go_sem,rowC,hk1,hd1,refs_pI,cells_pI]) K
  have e2:IntKind.i64.wrap ((i:Int)+1)=((i+1:Nat):Int):=by rw[w64 (by omega) (by omega)];rfl
  have nl:∀(R:Type) (X:Option R),notL (.sl (flatB rs) rs.length) X=X:=fun _ _=>rfl
  have kf:∀(R:Type) (X:Option R),keepC (.func 35 [] [.pI [.int .i64 op] 0]) [] X=X:=fun _ _=>rfl
  have cv:∀(R:Type) (vs:List IV) (K:IV→IM→Option R),callVC cw (.func 35 [] [.pI [.int .i64 op] 0]) vs [] m K=callC cw (.f 35) (vs++[.pI [.int .i64 op] 0]) [] m K:=fun _ _ _=>rfl
  rw[List.drop_eq_getElem_cons hi,L34_0_eq]
  have ih':=ih (i+1) (by omega)
  generalize rs[i]=r at *
  obtain⟨a,b,k,d⟩:=r
  simp only[rowC] at hcut hc
  rw[fiN]
  by_cases g:a=op
  ·rw[if_pos g]
   have g':decide (a=op)=true:=decide_eq_true g
   simp only[B34_0,go_sem,c1,decide_true,if_true,evC_of (idxR _ _ _ hi),cutC_true hcut,cv,List.singleton_append,hc,g']
  ·rw[if_neg g,←ih']
   simp only[B34_0,go_sem,c1,decide_true,if_true,evC_of (idxR _ _ _ hi),cutC_true hcut,cv,List.singleton_append,hc,g,decide_false,Bool.false_eq_true,if_false,nl,kf,e2]
   rfl
theorem rowsOk_refs:∀{rs:List RW}{ts:List (Int×Int×List Int)},rowsOk rs ts=true→∀r∈rs,r.2.2.1.refs=some 0∧r.2.2.2.refs=some 0
 |[],[],_,r,h=>by cases h
 |r::rs,t::ts,h,x,hx=>by
  simp only[rowsOk,rowOk,Bool.and_eq_true,decide_eq_true_eq] at h
  rcases List.mem_cons.1 hx with rfl | hx
  ·exact h.1.2.2.2
  ·exact rowsOk_refs h.2 x hx
 |[],_::_,h,_,_=>by cases h
 |_::_,[],h,_,_=>by cases h
theorem rowsOk_len:∀{rs:List RW}{ts:List (Int×Int×List Int)},rowsOk rs ts=true→rs.length=ts.length
 |[],[],_=>rfl
 |r::rs,t::ts,h=>by
  simp only[rowsOk,Bool.and_eq_true] at h
  rw[List.length_cons,List.length_cons,rowsOk_len h.2]
 |[],_::_,h=>by cases h
 |_::_,[],h=>by cases h
def tfd (ts:List (Int×Int×List Int)) (op:Int):Option (Int×Int×List Int):=ts.find? fun t=>decide (t.1=op)
theorem rowsOk_fnd (op:Int):∀{rs:List RW}{ts:List (Int×Int×List Int)},rowsOk rs ts=true→(fnd rs op=none∧tfd ts op=none)∨∃r t,fnd rs op=some r∧tfd ts op=some t∧rowOk r t=true
 |[],[],_=>.inl ⟨rfl,rfl⟩
 |r::rs,t::ts,h=>by
  simp only[rowsOk,Bool.and_eq_true] at h
  have h1:=h.1
  simp only[rowOk,Bool.and_eq_true,decide_eq_true_eq] at h1
  by_cases g:r.1=op
  ·exact .inr ⟨r,t,by simp[fnd,g],by simp[tfd,←h1.1,g],h.1⟩
  ·have g2:¬t.1=op:=by rw[←h1.1];exact g
   rcases rowsOk_fnd op h.2 with ⟨q1,q2⟩ | ⟨r',t',q1,q2,q3⟩
   ·exact .inl ⟨by simpa[fnd,g] using q1,by simpa[tfd,g2] using q2⟩
   ·exact .inr ⟨r',t',by simpa[fnd,g] using q1,by simpa[tfd,g2] using q2,q3⟩
 |[],_::_,h=>by cases h
 |_::_,[],h=>by cases h
theorem call34 (op:Int):cw (.f 34) [rowsQ,.func 35 [] [.pI [.int .i64 op] 0]] m0=some (.int .i64 (match fiN rsQ op 0 with | some p=>(p:Int) | none=>-1),m0):=by
 obtain⟨e,hok⟩:=rows_is
 have hl:rsQ.length=36:=rowsOk_len hok
 have hL:=loop64 rsQ (by omega) (rowsOk_refs hok) op m0 36 0 (by omega)
 rw[hl,List.drop_zero] at hL
 have hlen:POp.ev .lenSlice [.sl (flatB rsQ) 36]=some (.int .i64 ((36:Nat):Int)):=rfl
 have nl:∀(R:Type) (X:Option R),notL (.sl (flatB rsQ) 36) X=X:=fun _ _=>rfl
 have kf:∀(R:Type) (X:Option R),keepC (.func 35 [] [.pI [.int .i64 op] 0]) [] X=X:=fun _ _=>rfl
 rw[e]
 apply F34_call
 unfold F34
 rw[evC_of hlen,asI_mk,nl,kf,show (0:Int)=((0:Nat):Int) from rfl,hL]
 cases fiN rsQ op 0 with
 |none=>simp[go_sem]
 |some p=>simp[go_sem]
theorem call16 (op:Int):cw (.f 16) [.int .i64 op] m0=some (match fnd rsQ op with
  |some r=>.tup [.agg (rowC r),.bool true]
  |none=>.tup [.agg [.int .i64 0,.int .i64 0,.nilSlice,.nilFunc],.bool false],m0):=by
 obtain⟨e,hok⟩:=rows_is
 have hl:rsQ.length=36:=rowsOk_len hok
 have h63:=fun (R:Type) (K:IV→IM→Option R)=>callC_cw rows63 (by rfl) K
 have h64:=fun (R:Type) (K:IV→IM→Option R)=>callC_cw (call34 op) (by rw[e];rfl) K
 apply F16_call
 unfold F16
 rw[h63,h64]
 rcases fiN_spec op rsQ 0 with ⟨h1,h2⟩ | ⟨q,r,h1,h2,h3⟩
 ·rw[h1,h2]
  simp only[go_sem]
  rfl
 ·obtain⟨hq,e3⟩:=List.getElem?_eq_some_iff.1 h2
  obtain⟨hk,hd⟩:=rowsOk_refs hok r (e3▸List.getElem_mem hq)
  have hcut:=flatB_cut h2
  have c1:¬((0+q:Nat):Int)<0:=by omega
  have hix:=idxR (flatB rsQ) 36 (0+q) (by omega)
  have hcut':cut (flatB rsQ) ((0+q)*4) 4=some (rowC r):=by rw[Nat.zero_add];exact hcut
  rw[h1,h3,e]
  obtain⟨a,b,k,d⟩:=r
  simp only[rowC] at hcut' ⊢
  simp only at hk hd
  simp only[go_sem,c1,decide_false,Bool.false_eq_true,if_false,evC_of hix,cutC_true hcut',refC_of hk,refC_of hd]
  refine settle_id ?_
  have hr:refsAll [.int .i64 a,.int .i64 b,k,d]=some 0:=by simp[rA_cons,rA_nil,hk,hd,refs_int]
  simp only[IV.refsDeep,IV.refsDeep.go,hr]
  rfl
def inFl (op:Int):Bool:=decide (op=6∨op=7∨op=8∨op=18∨op=30∨(34≤op∧op≤37))
def takP (op:Int) (fl is sg e8:Bool):Bool:=(tfd tabL op).isSome&&(if fl=true then inFl op else if op=46∨op=47∨op=48 then is && !sg else if op=49 then is&&(!sg&&e8) else is)
def slZ (l:List Int):IV:=.sl (l.map (IV.int .i64)) l.length
theorem len_slZ (l:List Int):POp.ev .lenSlice [slZ l]=some (.int .i64 (l.length:Int)):=rfl
theorem idx_slZ (l:List Int) (i:Nat) (h:i<l.length):POp.ev (.indexS 1) [slZ l,.int .i64 (i:Int)]=some (.pI (l.map (IV.int .i64)) i):=by
 have c1:(i:Int)<(l.length:Int):=by omega
 have c2:(0:Int)≤(i:Int):=by omega
 simp[POp.ev,slZ,c1,c2]
theorem get_slZ {R:Type}(l:List Int) (i:Nat) (h:i<l.length) (K:IV→Option R):cutC false (l.map (IV.int .i64)) i 1 K=K (.int .i64 l[i]):=cutC_false (by simp[h]) K
theorem notL_slZ {R:Type}(l:List Int) (X:Option R):notL (slZ l) X=X:=rfl
def idxZ:List Int→Int→Nat→Option Nat
 |[],_,_=>none
 |w::r,s,i=>if s=w then some i else idxZ r s (i+1)
theorem loop66 (W:List Int) (hW:W.length≤1000) (v:Int) (m:IM):∀(j i:Nat),W.length=i+j →
  L70_0 (slZ W) v W.length i m=some (match idxZ (W.drop i) v i with
   |some p=>(.ret,[.int .i64 (p:Int)],[],m)
   |none=>(.exit 0,[],[],m)):=by
 intro j
 induction j with
 |zero =>
  intro i hk
  have e:W.drop i=[]:=List.drop_eq_nil_iff.2 (by omega)
  have c1:¬(i:Int)<(W.length:Int):=by omega
  rw[e,L70_0_eq]
  simp only[B70_0,go_sem,c1,decide_false,Bool.false_eq_true,if_false,idxZ]
 |succ j ih =>
  intro i hk
  have hi:i<W.length:=by omega
  have c1:(i:Int)<(W.length:Int):=by omega
  have e2:IntKind.i64.wrap ((i:Int)+1)=((i+1:Nat):Int):=by rw[w64 (by omega) (by omega)];rfl
  have ih':=ih (i+1) (by omega)
  have hx:idxZ (W[i]::W.drop (i+1)) v i=if v=W[i] then some i else idxZ (W.drop (i+1)) v (i+1):=rfl
  rw[List.drop_eq_getElem_cons hi,L70_0_eq,hx]
  by_cases g:v=W[i]
  ·have g':(v==W[i])=true:=by simpa using g
   rw[if_pos g]
   simp only[B70_0,go_sem,c1,decide_true,if_true,evC_of (idx_slZ W i hi),get_slZ W i hi,g']
  ·have g':(v==W[i])=false:=by simpa using g
   rw[if_neg g,←ih']
   simp only[B70_0,go_sem,c1,decide_true,if_true,evC_of (idx_slZ W i hi),get_slZ W i hi,g',Bool.false_eq_true,if_false,notL_slZ,e2]
   rfl
theorem call70 (W:List Int) (hW:W.length≤1000) (v:Int) (m:IM):cw (.f 70) [slZ W,.int .i64 v] m=some (.int .i64 (match idxZ W v 0 with | some p=>(p:Int) | none=>-1),m):=by
 have hL:=loop66 W hW v m W.length 0 (by omega)
 rw[List.drop_zero] at hL
 have hL:L70_0 (slZ W) v W.length 0 m=_:=hL
 apply F70_call
 unfold F70
 rw[evC_of (len_slZ W),asI_mk,notL_slZ,hL]
 cases idxZ W v 0 with
 |none=>simp[go_sem]
 |some p=>simp[go_sem]
def flL:List Int:=[6,7,8,18,30,34,35,36,37]
theorem op_cases {p:Int→Prop}(f:Nat→Bool) (hf:(List.range 50).all f=true) (hp:∀k:Nat,f k=true→p (k:Int)) (ho:∀op:Int,op<0∨49<op→p op) (op:Int):p op:=by
 by_cases h:0≤op∧op≤49
 ·obtain⟨k,rfl⟩:=Int.eq_ofNat_of_zero_le h.1
  exact hp k (List.all_eq_true.1 hf k (List.mem_range.2 (by omega)))
 ·exact ho op (by omega)
theorem flL_in (op:Int):(idxZ flL op 0).isSome=inFl op:=by
 refine op_cases (p:=fun op=>(idxZ flL op 0).isSome=inFl op) (fun k=>(idxZ flL k 0).isSome==inFl k) (by decide +kernel) (fun k h=>eq_of_beq h) (fun op h=>?_) op
 have h1:inFl op=false:=by unfold inFl;exact decide_eq_false (by omega)
 rw[h1]
 simp only[flL,idxZ]
 repeat rw[if_neg (by omega)]
 rfl
theorem call32 (op:Int) (m:IM):cw (.f 32) [.sl [.int .i64 6,.int .i64 7,.int .i64 8,.int .i64 18,.int .i64 30,.int .i64 34,.int .i64 35,.int .i64 36,.int .i64 37] 9,.int .i64 op] m=some (.bool (inFl op),m):=by
 have h66:=fun (R:Type) (K:IV→IM→Option R)=>callC_cw (call70 flL (by decide) op m) (by rfl) K
 show cw (.f 32) [slZ flL,.int .i64 op] m=_
 apply F32_call
 unfold F32
 rw[h66,←flL_in]
 cases idxZ flL op 0 with
 |none=>simp[go_sem]
 |some p=>simp[go_sem]
theorem call15 (op:Int) (s:List UInt8):cw (.f 15) [.int .i64 op,.str s] m0=some (.bool (takP op (isFlB s) (tyOk s) (tyR s).2.2 (Int.tmod (tyR s).2.1 8==0)),m0):=by
 obtain⟨e,hok⟩:=rows_is
 have h46:=call16 op
 have h30:=fun (R:Type) (K:IV→IM→Option R)=>callC_cw (call22 s m0) (by simp[go_sem]) K
 have h47:=fun (R:Type) (K:IV→IM→Option R)=>callC_cw (call32 op m0) (by rfl) K
 have h28:=fun (R:Type) (K:IV→IM→Option R)=>callC_cw (call13 s m0) (by simp[go_sem]) K
 apply F15_call
 unfold F15 takP
 rcases rowsOk_fnd op hok with ⟨h1,h2⟩ | ⟨r,t,h1,h2,h3⟩
 ·rw[h1] at h46
  have hh:=fun (R:Type) (K:IV→IM→Option R)=>callC_cw h46 (by rfl) K
  have n1:(IV.nilFunc).refs=some 0:=rfl
  rw[h2]
  simp only[go_sem,hh,refC_of refs_nil,refC_of n1,Bool.not_false,if_true]
  rfl
 ·rw[h1] at h46
  have hh:=fun (R:Type) (K:IV→IM→Option R)=>callC_cw h46 (by rfl) K
  obtain⟨a,b,k,d⟩:=r
  simp only[rowOk,Bool.and_eq_true,decide_eq_true_eq] at h3
  obtain⟨h3,h4,h5,h6,h7⟩:=h3
  rw[h2]
  simp only[rowC] at hh
  simp only[go_sem,hh,refC_of h6,refC_of h7,h30,h47,h28,Bool.not_true,Bool.false_eq_true,if_false,Option.isSome_some,Bool.true_and]
  cases isFlB s with
  |true =>
   simp only[if_true]
  |false =>
   simp only[Bool.false_eq_true,if_false]
   by_cases g1:op=46
   ·subst g1;cases tyOk s<;>simp[C15_c0,C15_c1,go_sem]
   by_cases g2:op=47
   ·subst g2;cases tyOk s<;>simp[C15_c0,C15_c1,go_sem]
   by_cases g3:op=48
   ·subst g3;cases tyOk s<;>simp[C15_c0,C15_c1,go_sem]
   have b1:(op==46)=false:=by simpa using g1
   have b2:(op==47)=false:=by simpa using g2
   have b3:(op==48)=false:=by simpa using g3
   by_cases g4:op=49
   ·subst g4
    cases tyOk s<;>cases (tyR s).2.2<;>simp[C15_c0,C15_c2,go_sem]
   ·simp[C15_c0,go_sem,g1,g2,g3,g4]
theorem call251 (x:Int) (m:IM):cw (.f 251) [.int .i64 x] m=some (.bool false,m):=by
 apply F251_call
 simp[F251,go_sem]
theorem call252 (x:Int) (m:IM):cw (.f 252) [.int .u32 x] m=some (.bool false,m):=by
 apply F252_call
 simp[F252,go_sem]
def cmpZ (x y:Int):Int:=if x<y then -1 else if y<x then 1 else 0
theorem call221 (x y:Int) (m:IM):cw (.f 221) [.int .i64 x,.int .i64 y] m=some (.int .i64 (cmpZ x y),m):=by
 have h:=fun (x:Int) (R:Type) (K:IV→IM→Option R)=>callC_cw (call251 x m) (by simp[go_sem]) K
 apply F221_call
 unfold cmpZ
 by_cases g:x<y
 ·simp[F221,go_sem,h,g]
 ·by_cases g2:y<x
  ·simp[F221,go_sem,h,g,g2]
  ·simp[F221,go_sem,h,g,g2]
theorem call222 (x y:Int) (m:IM):cw (.f 222) [.int .u32 x,.int .u32 y] m=some (.int .i64 (cmpZ x y),m):=by
 have h:=fun (x:Int) (R:Type) (K:IV→IM→Option R)=>callC_cw (call252 x m) (by simp[go_sem]) K
 apply F222_call
 unfold cmpZ
 by_cases g:x<y
 ·simp[F222,go_sem,h,g]
 ·by_cases g2:y<x
  ·simp[F222,go_sem,h,g,g2]
  ·simp[F222,go_sem,h,g,g2]
def slU (l:List Nat):IV:=.sl (l.map fun x:Nat=>IV.int .u32 (x:Int)) l.length
def SlU (V:IV) (l:List Nat):Prop:=(V=.nilSlice∧l=[])∨V=slU l
theorem SlU.refs {V:IV}{l:List Nat}(h:SlU V l):V.refs=some 0:=by rcases h with ⟨rfl,_⟩ | rfl<;>rfl
theorem SlU.len {V:IV}{l:List Nat}(h:SlU V l):POp.ev .lenSlice [V]=some (.int .i64 (l.length:Int)):=by rcases h with ⟨rfl,rfl⟩ | rfl<;>rfl
theorem SlU.notL {R:Type}{V:IV}{l:List Nat}(h:SlU V l) (X:Option R):notL V X=X:=notL_of h.refs X
theorem SlU.idx {V:IV}{l:List Nat}(h:SlU V l) (i:Nat) (hi:i<l.length):POp.ev (.indexS 1) [V,.int .i64 (i:Int)]=some (.pI (l.map fun x:Nat=>IV.int .u32 (x:Int)) i):=by
 rcases h with ⟨rfl,rfl⟩ | rfl
 ·simp at hi
 ·have c1:(i:Int)<(l.length:Int):=by omega
  have c2:(0:Int)≤(i:Int):=by omega
  simp[POp.ev,slU,c1,c2]
theorem get_slU {R:Type}(l:List Nat) (i:Nat) (h:i<l.length) (K:IV→Option R):cutC false (l.map fun x:Nat=>IV.int .u32 (x:Int)) i 1 K=K (.int .u32 (l[i]:Int)):=cutC_false (by simp[h]) K
theorem loop210 {a b:IV}{la lb:List Nat}(ha:SlU a la) (hb:SlU b lb) (hl:la.length=lb.length) (hn:la.length≤1000) (m:IM):∀(k:Nat),k≤la.length →
  L194_0 a b ((k:Int)-1) m=some (if lexT la lb k=0 then (.exit 0,[],[],m) else (.ret,[.int .i64 (lexT la lb k)],[],m)):=by
 intro k
 induction k with
 |zero =>
  intro _
  have c1:¬(((0:Nat):Int)-1≥0):=by omega
  rw[L194_0_eq]
  simp only[B194_0,go_sem,c1,decide_false,Bool.false_eq_true,if_false,lexT,if_true]
 |succ k ih =>
  intro hk
  have hi:k<la.length:=by omega
  have hi2:k<lb.length:=by omega
  have e0:(((k+1:Nat):Int)-1)=(k:Int):=by omega
  have c1:((k:Int)≥0):=by omega
  have h232:=fun (R:Type) (K:IV→IM→Option R)=>callC_cw (call222 (la[k]:Int) (lb[k]:Int) m) (by simp[go_sem]) K
  have na:=fun (R:Type) (X:Option R)=>ha.notL (R:=R) X
  have nb:=fun (R:Type) (X:Option R)=>hb.notL (R:=R) X
  have g1:la.getD k 0=la[k]:=by simp[List.getD_eq_getElem?_getD,hi]
  have g2:lb.getD k 0=lb[k]:=by simp[List.getD_eq_getElem?_getD,hi2]
  have e2:IntKind.i64.wrap ((k:Int)-1)=(k:Int)-1:=w64 (by omega) (by omega)
  have ih':=ih (by omega)
  rw[e0,L194_0_eq,lexT,g1,g2]
  by_cases q1:la[k]<lb[k]
  ·have z:cmpZ (la[k]:Int) (lb[k]:Int)=-1:=by unfold cmpZ;rw[if_pos (by omega)]
   have z1:((-1:Int) != 0)=true:=rfl
   rw[if_pos q1,if_neg (by decide)]
   simp only[B194_0,go_sem,c1,decide_true,if_true,evC_of (ha.idx k hi),evC_of (hb.idx k hi2),get_slU la k hi,get_slU lb k hi2,h232,z,z1]
  ·rw[if_neg q1]
   by_cases q2:lb[k]<la[k]
   ·have z:cmpZ (la[k]:Int) (lb[k]:Int)=1:=by unfold cmpZ;rw[if_neg (by omega),if_pos (by omega)]
    have z1:((1:Int) != 0)=true:=rfl
    rw[if_pos q2,if_neg (by decide)]
    simp only[B194_0,go_sem,c1,decide_true,if_true,evC_of (ha.idx k hi),evC_of (hb.idx k hi2),get_slU la k hi,get_slU lb k hi2,h232,z,z1]
   ·have z:cmpZ (la[k]:Int) (lb[k]:Int)=0:=by unfold cmpZ;rw[if_neg (by omega),if_neg (by omega)]
    have z1:((0:Int) != 0)=false:=rfl
    rw[if_neg q2,←ih']
    simp only[B194_0,go_sem,c1,decide_true,if_true,evC_of (ha.idx k hi),evC_of (hb.idx k hi2),get_slU la k hi,get_slU lb k hi2,h232,z,z1,Bool.false_eq_true,if_false,na,nb,e2]
    rfl
theorem call194 {a b:IV}{la lb:List Nat}(ha:SlU a la) (hb:SlU b lb) (ca:canZ la) (cb:canZ lb) (hn:la.length≤1000) (m:IM):cw (.f 194) [a,b] m=some (.int .i64 (sgnC (limV la) (limV lb)),m):=by
 have h231:=fun (R:Type) (K:IV→IM→Option R)=>callC_cw (call221 (la.length:Int) (lb.length:Int) m) (by simp[go_sem]) K
 have na:=fun (R:Type) (X:Option R)=>ha.notL (R:=R) X
 have nb:=fun (R:Type) (X:Option R)=>hb.notL (R:=R) X
 have e2:IntKind.i64.wrap ((la.length:Int)-1)=(la.length:Int)-1:=w64 (by omega) (by omega)
 rw[←sizes_sgn ca cb]
 apply F194_call
 by_cases h1:la.length<lb.length
 ·have z:cmpZ (la.length:Int) (lb.length:Int)=-1:=by unfold cmpZ;rw[if_pos (by omega)]
  have z1:((-1:Int) != 0)=true:=rfl
  rw[if_pos h1]
  simp only[F194,go_sem,evC_of ha.len,evC_of hb.len,h231,z,z1,if_true]
 ·rw[if_neg h1]
  by_cases h2:lb.length<la.length
  ·have z:cmpZ (la.length:Int) (lb.length:Int)=1:=by unfold cmpZ;rw[if_neg (by omega),if_pos (by omega)]
   have z1:((1:Int) != 0)=true:=rfl
   rw[if_pos h2]
   simp only[F194,go_sem,evC_of ha.len,evC_of hb.len,h231,z,z1,if_true]
  ·have z:cmpZ (la.length:Int) (lb.length:Int)=0:=by unfold cmpZ;rw[if_neg (by omega),if_neg (by omega)]
   have z1:((0:Int) != 0)=false:=rfl
   have hL:=loop210 ha hb (by omega) hn m la.length (Nat.le_refl _)
   rw[if_neg h2]
   by_cases q:lexT la lb la.length=0
   ·rw[if_pos q] at hL
    simp only[F194,go_sem,evC_of ha.len,evC_of hb.len,h231,z,z1,Bool.false_eq_true,if_false,na,nb,e2,hL,if_true,q]
   ·rw[if_neg q] at hL
    simp only[F194,go_sem,evC_of ha.len,evC_of hb.len,h231,z,z1,Bool.false_eq_true,if_false,na,nb,e2,hL,if_true,reduceCtorEq]
theorem sl_slU (l:List Nat) (n:Nat) (h:n≤l.length):POp.ev (.sliceS 1 false true) [slU l,.int .i64 (n:Int)]=some (slU (l.take n)):=by
 have c2:(n:Int)≤(l.length:Int):=by omega
 have c3:(0:Int)≤(n:Int):=by omega
 simp[POp.ev,slU,loHi,bnds,bnd,c2,c3,List.map_take,Nat.min_eq_left h]
theorem trimZ_app (l:List Nat) (x:Nat):trimZ (l++[x])=if x=0 then trimZ l else l++[x]:=by
 induction l with
 |nil =>
  simp only[List.nil_append,trimZ]
 |cons y r ih =>
  rw[List.cons_append,trimZ,ih]
  by_cases h:x=0
  ·rw[if_pos h,if_pos h,trimZ]
  ·rw[if_neg h,if_neg h]
   cases r with
   |nil=>simp
   |cons z r=>simp
theorem loop238 (m:IM):∀(n:Nat) (V:IV) (l:List Nat),l.length=n→n≤1000→SlU V l→∃V',L224_0 V m=some (.exit 0,[V'],[],m)∧SlU V' (trimZ l):=by
 intro n
 induction n with
 |zero =>
  intro V l hl _ hV
  have:l=[]:=List.length_eq_zero_iff.1 hl
  subst this
  have c0:¬((([]:List Nat).length:Int)>0):=by simp
  refine⟨V,?_,hV⟩
  rw[L224_0_eq]
  simp only[B224_0,C224_c0,go_sem,evC_of hV.len,c0,decide_false,Bool.false_eq_true,if_false,if_true]
 |succ n ih =>
  intro V l hl hn hV
  have hne:l≠[]:=by intro e;subst e;simp at hl
  have hi:n<l.length:=by omega
  have c0:((l.length:Int)>0):=by omega
  have e1:IntKind.i64.wrap ((l.length:Int)-1)=(n:Int):=by rw[w64 (by omega) (by omega)];omega
  have happ:l=l.take n++[l[n]]:=by
   have h1:=List.take_append_getElem hi
   rw[h1,List.take_of_length_le (by omega)]
  have hVs:V=slU l:=by
   rcases hV with ⟨_,e⟩ | e
   ·exact absurd e hne
   ·exact e
  by_cases q:l[n]=0
  ·have ht:trimZ l=trimZ (l.take n):=by
    conv=>lhs;rw[happ,trimZ_app,if_pos q]
   obtain⟨V',h1,h2⟩:=ih (slU (l.take n)) (l.take n) (by rw[List.length_take];omega) (by omega) (.inr rfl)
   refine⟨V',?_,by rw[ht];exact h2⟩
   have q':(((l[n]:Nat):Int)==0)=true:=by rw[q];rfl
   have nl:∀(R:Type) (X:Option R),notL (slU (l.take n)) X=X:=fun _ _=>rfl
   rw[←h1,L224_0_eq]
   have hs:=sl_slU l n (by omega)
   rw[←hVs] at hs
   simp only[B224_0,C224_c0,go_sem,evC_of hV.len,c0,decide_true,if_true,e1,evC_of (hV.idx n hi),get_slU l n hi,q',evC_of hs,nl]
   rfl
  ·have ht:trimZ l=l:=by
    conv=>lhs;rw[happ,trimZ_app,if_neg q]
    exact happ.symm
   have q':(((l[n]:Nat):Int)==0)=false:=by
    have:((l[n]:Nat):Int)≠0:=by omega
    simpa using this
   refine⟨V,?_,by rw[ht];exact hV⟩
   rw[L224_0_eq]
   simp only[B224_0,C224_c0,go_sem,evC_of hV.len,c0,decide_true,if_true,e1,evC_of (hV.idx n hi),get_slU l n hi,q',Bool.false_eq_true,if_false]
theorem call224 {V:IV}{l:List Nat}(hV:SlU V l) (hn:l.length≤1000) (m:IM):∃V',cw (.f 224) [V] m=some (V',m)∧SlU V' (trimZ l):=by
 obtain⟨V',h1,h2⟩:=loop238 m l.length V l rfl hn hV
 refine⟨V',?_,h2⟩
 apply F224_call
 unfold F224
 rw[hV.notL,h1]
 simp only[go_sem,if_true]
 exact settle_id (rD_of h2.refs)
def exZ (neg:Bool) (l:List Nat):Int:=if neg then -(limV l:Int) else limV l
theorem sgnC_cmp (x y:Nat):sgnC x y=cmpZ x y:=by
 unfold sgnC cmpZ
 simp only[Int.ofNat_lt]
theorem call161 {a b:IV}{la lb:List Nat}(na nb:Bool) (ha:SlU a la) (hb:SlU b lb) (ca:canZ la) (cb:canZ lb) (hn:la.length≤1000) (za:na=true→la≠[]) (zb:nb=true→lb≠[]) (m:IM) :
  cw (.f 161) [.agg [.bool na,a],.agg [.bool nb,b]] m=some (.int .i64 (cmpZ (exZ na la) (exZ nb lb)),m):=by
 have h210:=fun (R:Type) (K:IV→IM→Option R)=>callC_cw (call194 ha hb ca cb hn m) (by rcases ha with ⟨rfl,_⟩ | rfl<;>rcases hb with ⟨rfl,_⟩ | rfl<;>rfl) K
 have ra:=fun (R:Type) (X:Option R)=>refC_of (R:=R) ha.refs X
 have rb:=fun (R:Type) (X:Option R)=>refC_of (R:=R) hb.refs X
 have pos:∀l:List Nat,canZ l→l≠[]→0<limV l:=by
  intro l hc hne
  have e:=(List.dropLast_concat_getLast hne).symm
  have:=limV_ge (a:=l.dropLast) (l.getLast hne) (hc.2 _ _ e)
  rw[←e] at this
  have h1:1≤1000000000^l.dropLast.length:=Nat.one_le_pow _ _ (by decide)
  omega
 have hs:=sgnC_cmp (limV la) (limV lb)
 apply F161_call
 cases na with
 |true =>
  have p1:=pos la ca (za rfl)
  cases nb with
  |true =>
   have p2:=pos lb cb (zb rfl)
   have e:IntKind.i64.wrap (0-sgnC (limV la) (limV lb))=cmpZ (exZ true la) (exZ true lb):=by
    rw[hs]
    unfold cmpZ exZ
    simp only[if_true]
    by_cases q1:limV la<limV lb
    ·rw[if_pos (by omega),if_neg (by omega),if_pos (by omega)];rfl
    ·rw[if_neg (by omega)]
     by_cases q2:limV lb<limV la
     ·rw[if_pos (by omega),if_pos (by omega)];rfl
     ·rw[if_neg (by omega),if_neg (by omega),if_neg (by omega)];rfl
   have bq:(!true==true)=false:=rfl
   simp only[F161,go_sem,ra,rb,h210,e]
   rfl
  |false =>
   have e:cmpZ (exZ true la) (exZ false lb)=-1:=by
    unfold cmpZ exZ
    simp only[if_true,Bool.false_eq_true,if_false]
    rw[if_pos (by omega)]
   rw[e]
   simp only[F161,go_sem,ra,rb]
   rfl
 |false =>
  cases nb with
  |true =>
   have p2:=pos lb cb (zb rfl)
   have e:cmpZ (exZ false la) (exZ true lb)=1:=by
    unfold cmpZ exZ
    simp only[if_true,Bool.false_eq_true,if_false]
    rw[if_neg (by omega),if_pos (by omega)]
   rw[e]
   simp only[F161,go_sem,ra,rb]
   rfl
  |false =>
   have e:sgnC (limV la) (limV lb)=cmpZ (exZ false la) (exZ false lb):=by
    rw[hs];rfl
   simp only[F161,go_sem,ra,rb,h210,e]
   rfl
theorem call61 (b:Bool) (e:Int) (m:IM):cw (.f 61) [.bool b,.int .i64 e] m=some (.int .i64 (if b then e else 0),m):=by
 apply F61_call
 cases b<;>simp[F61,go_sem]
theorem ix2o (a b:IV) (i:Nat) (h:i<2):POp.ev (.indexS 1) [.sl [a,b] 2,.int .i64 (i:Int)]=some (.pI [a,b] i):=by
 have c1:(i:Int)<2:=by omega
 have c2:(0:Int)≤(i:Int):=by omega
 simp[POp.ev,c1,c2]
theorem call60 (a b:Int) (m:IM):cw (.f 60) [.sl [.int .i64 a,.int .i64 b] 2] m=some (.int .i64 (if a=0 then b else a),m):=by
 have d0:decide ((0:Int)<2)=true:=rfl
 have d1:decide ((1:Int)<2)=true:=rfl
 have d2:decide ((2:Int)<2)=false:=rfl
 have w1:IntKind.i64.wrap (0+1)=1:=rfl
 have w2:IntKind.i64.wrap (1+1)=2:=rfl
 have hlen:POp.ev .lenSlice [.sl [.int .i64 a,.int .i64 b] 2]=some (.int .i64 2):=rfl
 have i0:POp.ev (.indexS 1) [.sl [.int .i64 a,.int .i64 b] 2,.int .i64 0]=some (.pI [.int .i64 a,.int .i64 b] 0):=ix2o _ _ 0 (by decide)
 have i1:POp.ev (.indexS 1) [.sl [.int .i64 a,.int .i64 b] 2,.int .i64 1]=some (.pI [.int .i64 a,.int .i64 b] 1):=ix2o _ _ 1 (by decide)
 have k0:=fun (R:Type) (K:IV→Option R)=>cutC_false (cs:=[.int .i64 a,.int .i64 b]) (off:=0) (n:=1) (v:=.int .i64 a) rfl K
 have k1:=fun (R:Type) (K:IV→Option R)=>cutC_false (cs:=[.int .i64 a,.int .i64 b]) (off:=1) (n:=1) (v:=.int .i64 b) rfl K
 have nl:∀(R:Type) (X:Option R),notL (.sl [.int .i64 a,.int .i64 b] 2) X=X:=fun _ _=>rfl
 apply F60_call
 unfold F60
 rw[evC_of hlen,asI_mk,nl]
 by_cases h1:a=0
 ·subst h1
  have f1:L60_0 (.sl [.int .i64 0,.int .i64 b] 2) 2 0 m=L60_0 (.sl [.int .i64 0,.int .i64 b] 2) 2 1 m:=by
   rw[L60_0_eq]
   simp only[B60_0,go_sem,d0,evC_of i0,k0,nl,bne_self_eq_false,Bool.false_eq_true,if_false,if_true,w1]
   rfl
  rw[f1,L60_0_eq,if_pos rfl]
  by_cases h2:b=0
  ·subst h2
   have f2:nxt f60_0 (B60_0 (.sl [.int .i64 0,.int .i64 0] 2) 2 1 m)=L60_0 (.sl [.int .i64 0,.int .i64 0] 2) 2 2 m:=by
    simp only[B60_0,go_sem,d1,evC_of i1,k1,nl,bne_self_eq_false,Bool.false_eq_true,if_false,if_true,w2]
    rfl
   rw[f2,L60_0_eq]
   simp only[B60_0,go_sem,d2,Bool.false_eq_true,if_false,if_true]
  ·have e2:(b != 0)=true:=by simpa using h2
   simp only[B60_0,go_sem,d1,evC_of i1,k1,e2,if_true,reduceCtorEq,if_false]
 ·have e1:(a != 0)=true:=by simpa using h1
  rw[L60_0_eq,if_neg h1]
  simp only[B60_0,go_sem,d0,evC_of i0,k0,e1,if_true,reduceCtorEq,if_false]
def maskN (n:Nat):Nat:=2^n-1
theorem call62 (n:Nat) (h:n≤64) (m:IM):cw (.f 62) [.int .i64 (n:Int)] m=some (.int .u64 (maskN n:Nat),m):=by
 apply F62_call
 have hk:∀k,k≤64→∃v:Int,POp.ev (.bin .shl) [.int .u64 1,.int .i64 ((k:Nat):Int)]=some (.int .u64 v)∧IntKind.u64.wrap (v-1)=((maskN k:Nat):Int):=by
  have hall:((List.range 65).all fun k=>match POp.ev (.bin .shl) [.int .u64 1,.int .i64 ((k:Nat):Int)] with
   |some (.int .u64 v)=>decide (IntKind.u64.wrap (v-1)=((maskN k:Nat):Int))
   |_=>false)=true:=by decide +kernel
  intro k hk
  have:=List.all_eq_true.1 hall k (List.mem_range.2 (by omega))
  split at this
  ·rename_i v e
   exact⟨v,e,of_decide_eq_true this⟩
  ·cases this
 obtain⟨v,e1,e2⟩:=hk n h
 simp only[F62,evC_of e1,go_sem,e2]
theorem wu64_mod (x:Int):IntKind.u64.wrap x=x%18446744073709551616:=by
 simp only[IntKind.wrap,IntKind.bits,IntKind.signed];simp
theorem wu64 {x:Int}(h1:0≤x) (h2:x<18446744073709551616):IntKind.u64.wrap x=x:=by
 rw[wu64_mod];omega
theorem wi64_mod (x:Int):IntKind.i64.wrap x=if x%18446744073709551616≥9223372036854775808 then x%18446744073709551616-18446744073709551616 else x%18446744073709551616:=by
 simp only[IntKind.wrap,IntKind.bits,IntKind.signed];simp
theorem ofI (a:Nat):BitVec.ofInt 64 (a:Int)=BitVec.ofNat 64 a:=by simp
theorem and64 (a b:Nat) (ha:a<18446744073709551616) (hb:b<18446744073709551616):andU (a:Int) (b:Int)=((a &&& b:Nat):Int):=by
 show IntKind.u64.wrap ((BitVec.ofInt 64 (a:Int) &&& BitVec.ofInt 64 (b:Int)).toNat:Int)=_
 have hl:a &&& b<2^64:=Nat.and_lt_two_pow _ hb
 rw[ofI,ofI,BitVec.toNat_and,BitVec.toNat_ofNat,BitVec.toNat_ofNat,Nat.mod_eq_of_lt ha,Nat.mod_eq_of_lt hb]
 exact wu64 (by omega) (by omega)
theorem maskN_lt (n:Nat) (h:n≤64):maskN n<18446744073709551616:=by
 have:2^n≤2^64:=Nat.pow_le_pow_right (by decide) h
 unfold maskN
 omega
theorem and_mask (a n:Nat) (ha:a<18446744073709551616) (hn:n≤64):andU (a:Int) ((maskN n:Nat):Int)=((a%2^n:Nat):Int):=by
 rw[and64 a _ ha (maskN_lt n hn),maskN,Nat.and_two_pow_sub_one_eq_mod]
theorem andNot_z (a n:Nat) (ha:a<18446744073709551616) (hn:n≤64):(andnU (a:Int) ((maskN n:Nat):Int)==0)=decide (a<2^n):=by
 show (IntKind.u64.wrap ((BitVec.ofInt 64 (a:Int) &&& ~~~ BitVec.ofInt 64 ((maskN n:Nat):Int)).toNat:Int)==0)=_
 have hm:=maskN_lt n hn
 rw[ofI,ofI]
 generalize hz:BitVec.ofNat 64 a &&& ~~~ BitVec.ofNat 64 (maskN n)=z
 have hzl:z.toNat<2^64:=z.isLt
 rw[wu64 (by omega) (by omega)]
 have bitA:∀i,i<64→z.getLsbD i=(a.testBit i && !decide (i<n)):=by
  intro i hi
  rw[←hz,BitVec.getLsbD_and,BitVec.getLsbD_not,BitVec.getLsbD_ofNat,BitVec.getLsbD_ofNat,maskN,Nat.testBit_two_pow_sub_one]
  simp[hi]
 by_cases h:a<2^n
 ·have:z=0#64:=by
   apply BitVec.eq_of_getLsbD_eq
   intro i hi
   rw[bitA i hi,BitVec.getLsbD_zero]
   by_cases g:i<n
   ·simp[g]
   ·have:a<2^i:=Nat.lt_of_lt_of_le h (Nat.pow_le_pow_right (by decide) (by omega))
    rw[Nat.testBit_lt_two_pow this];rfl
  rw[this,decide_eq_true h];rfl
 ·rw[decide_eq_false h]
  have:z.toNat≠0:=by
   intro e
   apply h
   apply Nat.lt_pow_two_of_testBit
   intro i hi
   by_cases q:i<64
   ·have b:=bitA i q
    rw[show z=0#64 from BitVec.eq_of_toNat_eq e,BitVec.getLsbD_zero] at b
    have:¬i<n:=by omega
    simpa[this] using b.symm
   ·exact Nat.testBit_lt_two_pow (Nat.lt_of_lt_of_le ha (show 18446744073709551616≤2^i from Nat.pow_le_pow_right (by decide:2>0) (show 64≤i by omega)))
  have:((z.toNat:Nat):Int)≠0:=by omega
  simpa using this
def svalN (w x:Nat):Int:=if x<2^(w-1) then (x:Int) else (x:Int)-2^w
theorem value_ok (w x:Nat) (h1:1≤w) (h2:w≤64) (hx:x<2^w):Int.fdiv (IntKind.i64.wrap (IntKind.u64.wrap ((x:Int)*2^(64-w)))) (2^(64-w))=svalN w x:=by
 have e1:2^w*2^(64-w)=2^64:=by rw[←Nat.pow_add];congr 1;omega
 have e2:2^(w-1)*2^(64-w)=2^63:=by rw[←Nat.pow_add];congr 1;omega
 have e3:2^w=2*2^(w-1):=by rw[←Nat.pow_succ'];congr 1;omega
 have hp:0<2^(64-w):=Nat.two_pow_pos _
 unfold svalN
 have c1:((2:Int)^w)=((2^w:Nat):Int):=by norm_cast
 have c2:((2:Int)^(64-w))=((2^(64-w):Nat):Int):=by norm_cast
 rw[c1,c2]
 generalize 2^(64-w)=p at *
 generalize 2^(w-1)=q at *
 generalize 2^w=W at *
 have hx1:x*p<W*p:=Nat.mul_lt_mul_of_pos_right hx hp
 have e4:((x:Int)*(p:Int))=((x*p:Nat):Int):=by push_cast;rfl
 rw[e4,wu64 (by omega) (by omega),wi64_mod]
 have hm:(((x*p:Nat):Int))%18446744073709551616=((x*p:Nat):Int):=by omega
 rw[hm]
 by_cases g:x<q
 ·have:x*p<q*p:=Nat.mul_lt_mul_of_pos_right g hp
  rw[if_neg (by omega),if_pos g,←e4]
  exact Int.mul_fdiv_cancel _ (by omega)
 ·have:q*p≤x*p:=Nat.mul_le_mul_right _ (by omega)
  rw[if_pos (by omega),if_neg g]
  have e5:((x*p:Nat):Int)-18446744073709551616=((x:Int)-(W:Int))*(p:Int):=by
   rw[Int.sub_mul,←e4]
   have:((W*p:Nat):Int)=18446744073709551616:=by omega
   push_cast at this
   omega
  rw[e5]
  exact Int.mul_fdiv_cancel _ (by omega)
theorem sval_bd (w x:Nat) (h1:1≤w) (hx:x<2^w):-(2^(w-1):Nat)≤svalN w x∧svalN w x<(2^(w-1):Nat):=by
 have e3:2^w=2*2^(w-1):=by rw[←Nat.pow_succ'];congr 1;omega
 have c1:((2:Int)^w)=((2^w:Nat):Int):=by norm_cast
 unfold svalN
 rw[c1]
 generalize 2^(w-1)=q at *
 generalize 2^w=W at *
 split<;>omega
theorem sval_mod (w x:Nat):∃k:Int,svalN w x=(x:Int)+(2^w:Nat)*k:=by
 unfold svalN
 split
 ·exact⟨0,by simp⟩
 ·exact⟨-1,by push_cast;omega⟩
theorem qbr (n a b q r:Nat) (hn:n≤64) (ha:a<2^n) (k:Int) (h:(q:Int)*b+r=a+(2^n:Nat)*k) :
  andU (IntKind.u64.wrap (IntKind.u64.wrap ((q:Int)*b)+r)) ((maskN n:Nat):Int)=(a:Int):=by
 have hc:(q:Int)*(b:Int)=((q*b:Nat):Int):=by push_cast;rfl
 rw[hc] at h ⊢
 generalize q*b=t at h ⊢
 have e1:IntKind.u64.wrap (IntKind.u64.wrap (t:Int)+r)=(((t+r)%18446744073709551616:Nat):Int):=by
  rw[wu64_mod,wu64_mod];omega
 rw[e1,and_mask _ _ (Nat.mod_lt _ (by decide)) hn,Nat.mod_mod_of_dvd _ (show 2^n ∣ 18446744073709551616 from Nat.pow_dvd_pow 2 hn)]
 have h3:((t+r:Nat):Int)=a+(2^n:Nat)*k:=by omega
 have e2:((t+r:Nat):Int)%(2^n:Nat)=(a:Int):=by
  rw[h3,Int.add_mul_emod_self_left]
  exact Int.emod_eq_of_lt (by omega) (by omega)
 rw[←e2]
 rfl
theorem tab8:∀k:Nat,k<256→POp.ev .idxStr [.str [0,1,2,2,3,3,3,3,4,4,4,4,4,4,4,4,5,5,5,5,5,5,5,5,5,5,5,5,5,5,5,5,6,6,6,6,6,6,6,6,6,6,6,6,6,6,6,6,6,6,6,6,6,6,6,6,6,6,6,6,6,6,6,6,7,7,7,7,7,7,7,7,7,7,7,7,7,7,7,7,7,7,7,7,7,7,7,7,7,7,7,7,7,7,7,7,7,7,7,7,7,7,7,7,7,7,7,7,7,7,7,7,7,7,7,7,7,7,7,7,7,7,7,7,7,7,7,7,8,8,8,8,8,8,8,8,8,8,8,8,8,8,8,8,8,8,8,8,8,8,8,8,8,8,8,8,8,8,8,8,8,8,8,8,8,8,8,8,8,8,8,8,8,8,8,8,8,8,8,8,8,8,8,8,8,8,8,8,8,8,8,8,8,8,8,8,8,8,8,8,8,8,8,8,8,8,8,8,8,8,8,8,8,8,8,8,8,8,8,8,8,8,8,8,8,8,8,8,8,8,8,8,8,8,8,8,8,8,8,8,8,8,8,8,8,8,8,8,8,8,8,8,8,8,8,8],.int .u8 (k:Int)]=some (.int .u8 ((lenB k:Nat):Int)):=by
 have hall:((List.range 256).all fun k=>match POp.ev .idxStr [.str [0,1,2,2,3,3,3,3,4,4,4,4,4,4,4,4,5,5,5,5,5,5,5,5,5,5,5,5,5,5,5,5,6,6,6,6,6,6,6,6,6,6,6,6,6,6,6,6,6,6,6,6,6,6,6,6,6,6,6,6,6,6,6,6,7,7,7,7,7,7,7,7,7,7,7,7,7,7,7,7,7,7,7,7,7,7,7,7,7,7,7,7,7,7,7,7,7,7,7,7,7,7,7,7,7,7,7,7,7,7,7,7,7,7,7,7,7,7,7,7,7,7,7,7,7,7,7,7,8,8,8,8,8,8,8,8,8,8,8,8,8,8,8,8,8,8,8,8,8,8,8,8,8,8,8,8,8,8,8,8,8,8,8,8,8,8,8,8,8,8,8,8,8,8,8,8,8,8,8,8,8,8,8,8,8,8,8,8,8,8,8,8,8,8,8,8,8,8,8,8,8,8,8,8,8,8,8,8,8,8,8,8,8,8,8,8,8,8,8,8,8,8,8,8,8,8,8,8,8,8,8,8,8,8,8,8,8,8,8,8,8,8,8,8,8,8,8,8,8,8,8,8,8,8,8,8],.int .u8 ((k:Nat):Int)] with
  |some (.int .u8 v)=>decide (v=((lenB k:Nat):Int))
  |_=>false)=true:=by decide +kernel
 intro k hk
 have:=List.all_eq_true.1 hall k (List.mem_range.2 hk)
 split at this
 ·rename_i v e
  rw[e,of_decide_eq_true this]
 ·cases this
theorem lenB_uniq {x L:Nat}(h1:1≤L) (h2:2^(L-1)≤x) (h3:x<2^L):lenB x=L:=by
 have h0:x≠0:=by
  have:1≤2^(L-1):=Nat.one_le_pow _ _ (by decide)
  omega
 unfold lenB
 rw[if_neg h0]
 have:x.log2=L-1:=(Nat.log2_eq_iff h0).2 ⟨h2,by rwa [Nat.sub_add_cancel h1]⟩
 omega
theorem lenB_div {x k:Nat}(h:2^k≤x) (h2:x<2^64):lenB x=lenB (x/2^k)+k:=by
 have hp:0<2^k:=Nat.pow_pos (by decide)
 have h1:1≤x/2^k:=(Nat.le_div_iff_mul_le hp).2 (by omega)
 have h3:x/2^k<2^64:=Nat.lt_of_le_of_lt (Nat.div_le_self _ _) h2
 obtain⟨l1,l2,l3,l4⟩:=lenB_bd h1 h3
 refine lenB_uniq (by omega) ?_ ?_
 ·have:=(Nat.le_div_iff_mul_le hp).1 l3
  rw[←Nat.pow_add] at this
  rwa [show lenB (x/2^k)+k-1=lenB (x/2^k)-1+k by omega]
 ·have:=(Nat.div_lt_iff_lt_mul hp).1 l4
  rwa [←Nat.pow_add] at this
theorem c126_0 (x:Nat) (m:IM):C103_c0 x 0 m=some (.normal,[.int .u64 ((if 2^32≤x then x/2^32 else x:Nat):Int),.int .i64 ((if 2^32≤x then 32 else 0:Nat):Int)],[],m):=by
 have e:Int.fdiv (x:Int) (2^Nat.min (Int.toNat 32) 64)=((x/2^32:Nat):Int):=by
  show Int.fdiv (x:Int) (2^32:Int)=_
  rw[Int.fdiv_eq_ediv_of_nonneg _ (by decide)]
  rfl
 by_cases h:2^32≤x
 ·have c:(x:Int)≥4294967296:=by omega
  rw[if_pos h,if_pos h]
  simp only[C103_c0,go_sem,c,decide_true,if_true,e]
  rfl
 ·have c:¬(x:Int)≥4294967296:=by omega
  rw[if_neg h,if_neg h]
  simp only[C103_c0,go_sem,c,decide_false,Bool.false_eq_true,if_false]
  rfl
theorem c126_1 (x n:Nat) (hn:n≤100) (m:IM):C103_c1 x n m=some (.normal,[.int .u64 ((if 2^16≤x then x/2^16 else x:Nat):Int),.int .i64 ((if 2^16≤x then n+16 else n:Nat):Int)],[],m):=by
 have e:Int.fdiv (x:Int) (2^Nat.min (Int.toNat 16) 64)=((x/2^16:Nat):Int):=by
  show Int.fdiv (x:Int) (2^16:Int)=_
  rw[Int.fdiv_eq_ediv_of_nonneg _ (by decide)]
  rfl
 have e2:IntKind.i64.wrap ((n:Int)+16)=((n+16:Nat):Int):=by rw[w64 (by omega) (by omega)];rfl
 by_cases h:2^16≤x
 ·have c:(x:Int)≥65536:=by omega
  rw[if_pos h,if_pos h]
  simp only[C103_c1,go_sem,c,decide_true,if_true,e,e2]
 ·have c:¬(x:Int)≥65536:=by omega
  rw[if_neg h,if_neg h]
  simp only[C103_c1,go_sem,c,decide_false,Bool.false_eq_true,if_false]
theorem c126_2 (x n:Nat) (hn:n≤100) (m:IM):C103_c2 x n m=some (.normal,[.int .u64 ((if 2^8≤x then x/2^8 else x:Nat):Int),.int .i64 ((if 2^8≤x then n+8 else n:Nat):Int)],[],m):=by
 have e:Int.fdiv (x:Int) (2^Nat.min (Int.toNat 8) 64)=((x/2^8:Nat):Int):=by
  show Int.fdiv (x:Int) (2^8:Int)=_
  rw[Int.fdiv_eq_ediv_of_nonneg _ (by decide)]
  rfl
 have e2:IntKind.i64.wrap ((n:Int)+8)=((n+8:Nat):Int):=by rw[w64 (by omega) (by omega)];rfl
 by_cases h:2^8≤x
 ·have c:(x:Int)≥256:=by omega
  rw[if_pos h,if_pos h]
  simp only[C103_c2,go_sem,c,decide_true,if_true,e,e2]
 ·have c:¬(x:Int)≥256:=by omega
  rw[if_neg h,if_neg h]
  simp only[C103_c2,go_sem,c,decide_false,Bool.false_eq_true,if_false]
set_option maxRecDepth 100000 in
theorem call103 (x:Nat) (hx:x<2^64) (m:IM):cw (.f 103) [.int .u64 (x:Int)] m=some (.int .i64 ((lenB x:Nat):Int),m):=by
 obtain⟨a,n0,h0,ha,hn0,hl0⟩:∃a n0:Nat,C103_c0 x 0 m=some (.normal,[.int .u64 (a:Int),.int .i64 (n0:Int)],[],m)∧a<2^32∧n0≤32∧lenB x=lenB a+n0:=by
  by_cases h:2^32≤x
  ·exact⟨x/2^32,32,by rw[c126_0,if_pos h,if_pos h],Nat.div_lt_of_lt_mul (by omega),by omega,lenB_div h hx⟩
  ·exact⟨x,0,by rw[c126_0,if_neg h,if_neg h],by omega,by omega,rfl⟩
 obtain⟨b,n1,h1,hb,hn1,hl1⟩:∃b n1:Nat,C103_c1 a n0 m=some (.normal,[.int .u64 (b:Int),.int .i64 (n1:Int)],[],m)∧b<2^16∧n1≤48∧lenB a+n0=lenB b+n1:=by
  by_cases h:2^16≤a
  ·exact⟨a/2^16,n0+16,by rw[c126_1 a n0 (by omega),if_pos h,if_pos h],Nat.div_lt_of_lt_mul (by omega),by omega,by rw[lenB_div h (by omega)];omega⟩
  ·exact⟨a,n0,by rw[c126_1 a n0 (by omega),if_neg h,if_neg h],by omega,by omega,rfl⟩
 obtain⟨c,n2,h2,hc,hn2,hl2⟩:∃c n2:Nat,C103_c2 b n1 m=some (.normal,[.int .u64 (c:Int),.int .i64 (n2:Int)],[],m)∧c<2^8∧n2≤56∧lenB b+n1=lenB c+n2:=by
  by_cases h:2^8≤b
  ·exact⟨b/2^8,n1+8,by rw[c126_2 b n1 (by omega),if_pos h,if_pos h],Nat.div_lt_of_lt_mul (by omega),by omega,by rw[lenB_div h (by omega)];omega⟩
  ·exact⟨b,n1,by rw[c126_2 b n1 (by omega),if_neg h,if_neg h],by omega,by omega,rfl⟩
 have hw:IntKind.u8.wrap (c:Int)=(c:Int):=w8 (by omega) (by omega)
 have hlc:lenB c≤8:=by
  by_cases q:c=0
  ·subst q;decide
  ·have h3:=(lenB_bd (d:=c) (by omega) (by omega)).2.2.1
   by_cases q2:lenB c≤8
   ·exact q2
   ·have:2^8≤2^(lenB c-1):=Nat.pow_le_pow_right (by decide) (by omega)
    omega
 have hw2:IntKind.i64.wrap ((lenB c:Nat):Int)=((lenB c:Nat):Int):=w64 (by omega) (by omega)
 have hw3:IntKind.i64.wrap ((n2:Int)+((lenB c:Nat):Int))=((lenB x:Nat):Int):=by rw[w64 (by omega) (by omega)];omega
 apply F103_call
 simp only[F103,h0,h1,h2,go_sem,if_true,hw,evC_of (tab8 c hc),hw2,hw3]
theorem call206 (L:Nat) (h:L≤64) (m:IM):cw (.f 206) [.int .i64 (L:Int)] m=some (.int .i64 ((L*78913/262144:Nat):Int),m):=by
 have e1:IntKind.i64.wrap ((L:Int)*78913)=((L*78913:Nat):Int):=by rw[w64 (by omega) (by omega)];omega
 have e2:Int.fdiv ((L*78913:Nat):Int) (2^Nat.min (Int.toNat 18) 64)=((L*78913/262144:Nat):Int):=by
  show Int.fdiv ((L*78913:Nat):Int) (2^18:Int)=_
  rw[Int.fdiv_eq_ediv_of_nonneg _ (by decide)]
  rfl
 apply F206_call
 unfold F206
 rw[e1]
 refine (settle_id rfl).trans ?_
 rw[show Nat.min (Int.toNat 18) (IntKind.bits .i64)=Nat.min (Int.toNat 18) 64 from rfl,e2]
theorem call207 (b:Bool) (m:IM):cw (.f 207) [.bool b] m=some (.int .i64 (if b then 1 else 0),m):=by
 apply F207_call
 cases b<;>simp[F207,go_sem]
theorem pw20:∀k:Nat,k≤19→POp.ev (.indexA 20 1) [.pI [.int .u64 1,.int .u64 10,.int .u64 100,.int .u64 1000,.int .u64 10000,.int .u64 100000,.int .u64 1000000,.int .u64 10000000,.int .u64 100000000,.int .u64 1000000000,.int .u64 10000000000,.int .u64 100000000000,.int .u64 1000000000000,.int .u64 10000000000000,.int .u64 100000000000000,.int .u64 1000000000000000,.int .u64 10000000000000000,.int .u64 100000000000000000,.int .u64 1000000000000000000,.int .u64 10000000000000000000] 0,.int .i64 (k:Int)]=some (.pI [.int .u64 1,.int .u64 10,.int .u64 100,.int .u64 1000,.int .u64 10000,.int .u64 100000,.int .u64 1000000,.int .u64 10000000,.int .u64 100000000,.int .u64 1000000000,.int .u64 10000000000,.int .u64 100000000000,.int .u64 1000000000000,.int .u64 10000000000000,.int .u64 100000000000000,.int .u64 1000000000000000,.int .u64 10000000000000000,.int .u64 100000000000000000,.int .u64 1000000000000000000,.int .u64 10000000000000000000] k):=by
 intro k h
 have c1:(k:Int)<20:=by omega
 have c2:(0:Int)≤(k:Int):=by omega
 simp[POp.ev,c1,c2]
theorem pw20g:∀k:Nat,k≤19→([.int .u64 1,.int .u64 10,.int .u64 100,.int .u64 1000,.int .u64 10000,.int .u64 100000,.int .u64 1000000,.int .u64 10000000,.int .u64 100000000,.int .u64 1000000000,.int .u64 10000000000,.int .u64 100000000000,.int .u64 1000000000000,.int .u64 10000000000000,.int .u64 100000000000000,.int .u64 1000000000000000,.int .u64 10000000000000000,.int .u64 100000000000000000,.int .u64 1000000000000000000,.int .u64 10000000000000000000]:List IV)[k]?=some (.int .u64 ((10^k:Nat):Int)):=by
 intro k h
 have hk:k=0∨k=1∨k=2∨k=3∨k=4∨k=5∨k=6∨k=7∨k=8∨k=9∨k=10∨k=11∨k=12∨k=13∨k=14∨k=15∨k=16∨k=17∨k=18∨k=19:=by omega
 rcases hk with rfl | rfl | rfl | rfl | rfl | rfl | rfl | rfl | rfl | rfl | rfl | rfl | rfl | rfl | rfl | rfl | rfl | rfl | rfl | rfl<;>rfl
theorem call173 (d:Nat) (h1:1≤d) (h2:d<2^64) (m:IM):cw (.f 173) [.int .u64 (d:Int)] m=some (.int .i64 ((ndB d:Nat):Int),m):=by
 obtain⟨l1,l2,l3,l4⟩:=lenB_bd h1 h2
 obtain⟨n1,n2,n3,n4⟩:=nd_spec h1 h2
 have c126:=fun (R:Type) (K:IV→IM→Option R)=>callC_cw (call103 d h2 m) (by simp[go_sem]) K
 have c233:=fun (R:Type) (K:IV→IM→Option R)=>callC_cw (call206 (lenB d) l2 m) (by simp[go_sem]) K
 have c234:=fun (b:Bool) (R:Type) (K:IV→IM→Option R)=>callC_cw (call207 b m) (by simp[go_sem]) K
 have hn:lenB d*78913/262144≤19:=by omega
 have e1:=pw20 _ hn
 have e2:=pw20g _ hn
 have k0:=fun (R:Type) (K:IV→Option R)=>cutC_false e2 (n:=1) K
 have hw:IntKind.i64.wrap (((lenB d*78913/262144:Nat):Int)+(if decide ((d:Int)≥((10^(lenB d*78913/262144):Nat):Int))=true then 1 else 0))=((ndB d:Nat):Int):=by
  unfold ndB at n2 ⊢
  by_cases g:10^(lenB d*78913/262144)≤d
  ·have g':(d:Int)≥((10^(lenB d*78913/262144):Nat):Int):=by exact_mod_cast g
   rw[if_pos g] at n2 ⊢
   rw[decide_eq_true g',if_pos rfl,w64 (by omega) (by omega)]
   omega
  ·have g':¬(d:Int)≥((10^(lenB d*78913/262144):Nat):Int):=by intro q;exact g (by exact_mod_cast q)
   rw[if_neg g] at n2 ⊢
   rw[decide_eq_false g',if_neg (by decide),w64 (by omega) (by omega)]
   omega
 apply F173_call
 simp only[F173,c126,c233,go_sem,evC_of e1,k0,c234,hw]
def smB (n:Nat):List UInt8:=if n<10 then [UInt8.ofNat (48+n)] else [UInt8.ofNat (48+n/10),UInt8.ofNat (48+n%10)]
theorem sm36:∀k:Nat,k<10→POp.ev (.sliceStr true true) [.str [48,49,50,51,52,53,54,55,56,57,97,98,99,100,101,102,103,104,105,106,107,108,109,110,111,112,113,114,115,116,117,118,119,120,121,122],.int .i64 ((k:Nat):Int),.int .i64 (IntKind.wrap .i64 (((k:Nat):Int)+1))]=some (.str (smB k)):=by
 have hall:((List.range 10).all fun k=>match POp.ev (.sliceStr true true) [.str [48,49,50,51,52,53,54,55,56,57,97,98,99,100,101,102,103,104,105,106,107,108,109,110,111,112,113,114,115,116,117,118,119,120,121,122],.int .i64 ((k:Nat):Int),.int .i64 (IntKind.wrap .i64 (((k:Nat):Int)+1))] with
  |some (.str s)=>decide (s=smB k)
  |_=>false)=true:=by decide +kernel
 intro k hk
 have:=List.all_eq_true.1 hall k (List.mem_range.2 hk)
 split at this
 ·rename_i s e
  rw[e,of_decide_eq_true this]
 ·cases this
theorem sm200:∀k:Nat,k<100→10≤k→POp.ev (.sliceStr true true) [.str SMT,.int .i64 (IntKind.wrap .i64 (((k:Nat):Int)*2)),.int .i64 (IntKind.wrap .i64 (IntKind.wrap .i64 (((k:Nat):Int)*2)+2))]=some (.str (smB k)):=by
 have hall:((List.range 100).all fun k=>decide (k<10)||match POp.ev (.sliceStr true true) [.str SMT,.int .i64 (IntKind.wrap .i64 (((k:Nat):Int)*2)),.int .i64 (IntKind.wrap .i64 (IntKind.wrap .i64 (((k:Nat):Int)*2)+2))] with
  |some (.str s)=>decide (s=smB k)
  |_=>false)=true:=by decide +kernel
 intro k hk h10
 have:=List.all_eq_true.1 hall k (List.mem_range.2 hk)
 rw[decide_eq_false (by omega),Bool.false_or] at this
 split at this
 ·rename_i s e
  rw[e,of_decide_eq_true this]
 ·cases this
set_option maxRecDepth 100000 in
theorem call172 (k:Nat) (h:k<100) (m:IM):cw (.f 172) [.int .i64 (k:Int)] m=some (.str (smB k),m):=by
 apply F172_call
 by_cases g:k<10
 ·have c1:(k:Int)<10:=by omega
  simp only[F172,go_sem,c1,decide_true,if_true,evC_of (sm36 k g)]
 ·have c1:¬(k:Int)<10:=by omega
  simp only[F172,go_sem,c1,decide_false,Bool.false_eq_true,if_false,evC_of (sm200 k h (by omega))]
theorem smT:∀j:Nat,j<100→POp.ev .idxStr [.str SMT,.int .u32 (((2*j:Nat):Int))]=some (.int .u8 (((48+j/10:Nat):Int))):=by
 have hall:((List.range 100).all fun j=>match POp.ev .idxStr [.str SMT,.int .u32 (((2*j:Nat):Int))] with
  |some (.int .u8 v)=>decide (v=((48+j/10:Nat):Int))
  |_=>false)=true:=by decide +kernel
 intro j hj
 have:=List.all_eq_true.1 hall j (List.mem_range.2 hj)
 split at this
 ·rename_i v e
  rw[e,of_decide_eq_true this]
 ·cases this
theorem smO:∀j:Nat,j<100→POp.ev .idxStr [.str SMT,.int .u32 (((2*j+1:Nat):Int))]=some (.int .u8 (((48+j%10:Nat):Int))):=by
 have hall:((List.range 100).all fun j=>match POp.ev .idxStr [.str SMT,.int .u32 (((2*j+1:Nat):Int))] with
  |some (.int .u8 v)=>decide (v=((48+j%10:Nat):Int))
  |_=>false)=true:=by decide +kernel
 intro j hj
 have:=List.all_eq_true.1 hall j (List.mem_range.2 hj)
 split at this
 ·rename_i v e
  rw[e,of_decide_eq_true this]
 ·cases this
theorem smB_dec:∀n,n<100→smB n=decN n:=by
 have h:((List.range 100).all fun n=>decide (smB n=decN n))=true:=by decide +kernel
 intro n hn
 exact of_decide_eq_true (List.all_eq_true.1 h n (List.mem_range.2 hn))
theorem dig2 (j:Nat) (h:j<100):digN 2 j=[UInt8.ofNat (48+j/10),UInt8.ofNat (48+j%10)]:=by
 simp only[digN,List.nil_append,List.singleton_append,List.cons_append]
 rw[Nat.mod_eq_of_lt (show j/10<10 by omega)]
theorem overCap_any (n p:Nat) (hp:p<n):overCap (List.replicate n Cap.any) p 1 .any=List.replicate n Cap.any:=by
 unfold overCap
 rw[List.take_replicate,List.drop_replicate,List.replicate_append_replicate,List.replicate_append_replicate]
 congr 1
 omega
theorem stB {R:Type}{m:IM}{id:Nat}{cs:List IV}{n:Nat}(h:m.get id=.cells cs (List.replicate n .any)) (k:IntKind) (v:Int) (p:Nat) (hp:p<cs.length) (hn:p<n) (K:IM→Option R) :
  stP m (.pB id p) [.int k v] .any K=K (setM m id (.cells (over cs p [.int k v]) (List.replicate n .any))):=by
 have:=stP_set (vs:=[.int k v]) (c:=.any) (off:=p) (r:=0) h (by simp[rA_cons,rA_nil,refs_int]) (Nat.zero_le _) (by simp;omega) K
 rw[this,List.length_singleton,overCap_any n p hn]
theorem over_cons (cs:List IV) (q:Nat) (v:IV) (vs:List IV) (h:q+1+vs.length≤cs.length):over (over cs (q+1) vs) q [v]=over cs q (v::vs):=by
 unfold over
 have h1:(List.take (q+1) cs++vs++List.drop (q+1+vs.length) cs).take q=cs.take q:=by
  rw[List.append_assoc,List.take_append_of_le_length (by rw[List.length_take];omega),List.take_take,Nat.min_eq_left (by omega)]
 have h2:(List.take (q+1) cs++vs++List.drop (q+1+vs.length) cs).drop (q+[v].length)=vs++List.drop (q+1+vs.length) cs:=by
  rw[List.append_assoc,List.length_singleton,List.drop_append_of_le_length (by rw[List.length_take];omega)]
  rw[List.drop_eq_nil_of_le (by rw[List.length_take];omega),List.nil_append]
 rw[h1,h2,List.length_cons,show q+(vs.length+1)=q+1+vs.length by omega]
 simp
theorem over_lenB (cs:List IV) (q:Nat) (vs:List IV) (h:q+vs.length≤cs.length):(over cs q vs).length=cs.length:=by
 unfold over
 simp only[List.length_append,List.length_take,List.length_drop]
 omega
theorem idx_sB (id n:Nat) (i:Nat) (h:i<n):POp.ev (.indexS 1) [.sB id 0 n 1,.int .i64 (i:Int)]=some (.pB id i):=by
 have c1:(i:Int)<(n:Int):=by omega
 have c2:(0:Int)≤(i:Int):=by omega
 simp[POp.ev,c1,c2]
theorem wu32 {x:Int}(h1:0≤x) (h2:x<4294967296):IntKind.u32.wrap x=x:=by
 simp only[IntKind.wrap,IntKind.bits,IntKind.signed];simp;omega
theorem smT' (j:Nat) (h:j<100):POp.ev .idxStr [.str SMT,.int .u32 (((2*j:Nat):Int))]=some (.int .u8 (((48+j/10:Nat):Int))):=smT j h
theorem smO' (j:Nat) (h:j<100):POp.ev .idxStr [.str SMT,.int .u32 (((2*j+1:Nat):Int))]=some (.int .u8 (((48+j%10:Nat):Int))):=smO j h
abbrev anyC (n:Nat):List Cap:=List.replicate n .any
theorem bc_dig2 (j:Nat) (h:j<100):bytesCells (digN 2 j)=[.int .u8 ((48+j/10:Nat):Int),.int .u8 ((48+j%10:Nat):Int)]:=by
 rw[dig2 j h]
 simp only[bytesCells]
 rw[dg_val _ (by omega),dg_val _ (by omega)]
theorem pr_step {R:Type}{m:IM}{id:Nat}{cs V:List IV}{M N nd j:Nat}{o1 o2 i1 i2:Int}(h:m.get id=.cells (over cs nd V) (anyC M)) (hcs:cs.length=M) (hN:nd+V.length=N) (hM:N≤M) (h2:2≤nd) (hj:j<100)
  (e1:o1=((2*j+1:Nat):Int)) (e2:o2=((2*j:Nat):Int)) (e3:i1=((nd-1:Nat):Int)) (e4:i2=((nd-2:Nat):Int)) (K:IM→Option R) :
  (evC .idxStr [.str SMT,.int .u32 o1] fun v0=>asI .u8 v0 fun n1=>evC .idxStr [.str SMT,.int .u32 o2] fun v2=>asI .u8 v2 fun n3=>evC (.indexS 1) [.sB id 0 N 1,.int .i64 i1] fun v4=>notL v4 (stP m v4 [.int .u8 n1] .any fun m5=>evC (.indexS 1) [.sB id 0 N 1,.int .i64 i2] fun v6=>notL v6 (stP m5 v6 [.int .u8 n3] .any K))) =
   K (setM m id (.cells (over cs (nd-2) (bytesCells (digN 2 j)++V)) (anyC M))):=by
 subst e1 e2 e3 e4
 have hid:id<m.size:=getM_lt h
 have l1:(over cs nd V).length=M:=by rw[over_lenB _ _ _ (by omega),hcs]
 have g1:(setM m id (.cells (over (over cs nd V) (nd-1) [.int .u8 ((48+j%10:Nat):Int)]) (anyC M))).get id=.cells (over (over cs nd V) (nd-1) [.int .u8 ((48+j%10:Nat):Int)]) (anyC M):=get_setM hid _
 have nl:∀(p:Nat) (X:Option R),notL (.pB id p) X=X:=fun _ _=>rfl
 have o1:over (over cs nd V) (nd-1) [.int .u8 ((48+j%10:Nat):Int)]=over cs (nd-1) (.int .u8 ((48+j%10:Nat):Int)::V):=by
  have:=over_cons cs (nd-1) (.int .u8 ((48+j%10:Nat):Int)) V (by omega)
  rwa [show nd-1+1=nd by omega] at this
 have o2:over (over cs (nd-1) (.int .u8 ((48+j%10:Nat):Int)::V)) (nd-2) [.int .u8 ((48+j/10:Nat):Int)]=over cs (nd-2) (.int .u8 ((48+j/10:Nat):Int) :: .int .u8 ((48+j%10:Nat):Int)::V):=by
  have:=over_cons cs (nd-2) (.int .u8 ((48+j/10:Nat):Int)) (.int .u8 ((48+j%10:Nat):Int)::V) (by rw[List.length_cons];omega)
  rwa [show nd-2+1=nd-1 by omega] at this
 have l2:(over cs (nd-1) (.int .u8 ((48+j%10:Nat):Int)::V)).length=M:=by rw[over_lenB _ _ _ (by rw[List.length_cons];omega),hcs]
 rw[evC_of (smO' j hj),asI_mk,evC_of (smT' j hj),asI_mk,evC_of (idx_sB id N (nd-1) (by omega)),nl,stB h _ _ _ (by omega) (by omega),evC_of (idx_sB id N (nd-2) (by omega)),nl]
 rw[o1] at g1 ⊢
 rw[stB g1 _ _ _ (by omega) (by omega),setM_setM,o2,bc_dig2 j hj]
 rfl
theorem digN_mod:∀(k n:Nat),digN k (n%10^k)=digN k n
 |0,_=>rfl
 |k+1,n=>by
  rw[digN,digN,←digN_mod k (n/10),←digN_mod k (n%10^(k+1)/10)]
  have e1:n%10^(k+1)/10%10^k=n/10%10^k:=by
   rw[Nat.pow_succ,Nat.mul_comm,Nat.mod_mul_right_div_self,Nat.mod_mod]
  have e2:n%10^(k+1)%10=n%10:=Nat.mod_mod_of_dvd _ (by rw[Nat.pow_succ];exact Nat.dvd_mul_left _ _)
  rw[e1,e2]
theorem digN2 (n:Nat):digN 2 (n%100)=digN 2 n:=digN_mod 2 n
theorem bc_app:∀(a b:List UInt8),bytesCells (a++b)=bytesCells a++bytesCells b
 |[],_=>rfl
 |c::a,b=>by rw[List.cons_append,bytesCells,bc_app a b];rfl
theorem bc_len:∀(a:List UInt8),(bytesCells a).length=a.length
 |[]=>rfl
 |c::a=>by rw[bytesCells,List.length_cons,bc_len a];rfl
theorem dig4 (n:Nat):digN 4 n=digN 2 (n/100%100)++digN 2 (n%100):=by
 rw[digN2,digN2];exact digN_add 2 2 n
theorem dig8 (n:Nat):digN 8 n=digN 2 (n/1000000%100)++(digN 2 (n/10000%100)++(digN 2 (n/100%100)++digN 2 (n%100))):=by
 rw[←dig4,digN2,digN2]
 rw[show (8:Nat)=2+6 from rfl,digN_add 6 2 n,show (6:Nat)=2+4 from rfl,digN_add 4 2 n]
theorem round174 {m:IM}{id:Nat}{cs V:List IV}{M N nd u:Nat}(h:m.get id=.cells (over cs nd V) (anyC M)) (hcs:cs.length=M) (hN:nd+V.length=N) (hM:N≤M) (hM2:M≤1000) (h8:8≤nd) (hu:u<18446744073709551616) :
  B174_0 (.sB id 0 N 1) u nd m=some (.inl (St.mk [(0,.sB id 0 N 1,.any),(1,.int .u64 ((u/100000000:Nat):Int),.any),(4,.int .i64 ((nd-8:Nat):Int),.any)] [] [] (setM m id (.cells (over cs (nd-8) (bytesCells (digN 8 u)++V)) (anyC M))))):=by
 have hid:id<m.size:=getM_lt h
 have t0:Int.tmod (u:Int) 100000000=((u%100000000:Nat):Int):=rfl
 have t1:IntKind.u32.wrap ((u%100000000:Nat):Int)=((u%100000000:Nat):Int):=wu32 (by omega) (by omega)
 have t2:Int.tmod ((u%100000000:Nat):Int) 10000=((u%100000000%10000:Nat):Int):=rfl
 have t3:Int.tdiv ((u%100000000:Nat):Int) 10000=((u%100000000/10000:Nat):Int):=rfl
 have t4:IntKind.u32.wrap ((u%100000000/10000:Nat):Int)=((u%100000000/10000:Nat):Int):=wu32 (by omega) (by omega)
 have t5:∀a:Nat,Int.tmod (a:Int) 100=((a%100:Nat):Int):=fun _=>rfl
 have t6:∀a:Nat,Int.tdiv (a:Int) 100=((a/100:Nat):Int):=fun _=>rfl
 have t7:∀a:Nat,a<10000→IntKind.u32.wrap ((a/100:Nat):Int)=((a/100:Nat):Int):=fun a ha=>wu32 (by omega) (by omega)
 have d2:∀a:Nat,a<100→IntKind.u32.wrap ((a:Int)*2)=((2*a:Nat):Int):=fun a ha=>by rw[wu32 (by omega) (by omega)];omega
 have d1:∀a:Nat,a<100→IntKind.u32.wrap (((2*a:Nat):Int)+1)=((2*a+1:Nat):Int):=fun a ha=>by rw[wu32 (by omega) (by omega)];omega
 have wi:∀k:Nat,k≤8→IntKind.i64.wrap ((nd:Int)-(k:Int))=((nd-k:Nat):Int):=fun k hk=>by rw[w64 (by omega) (by omega)];omega
 have wu:IntKind.u64.wrap (Int.tdiv (u:Int) 100000000)=((u/100000000:Nat):Int):=by
  rw[show Int.tdiv (u:Int) 100000000=((u/100000000:Nat):Int) from rfl]
  exact wu64 (by omega) (by omega)
 have c8:decide ((nd:Int)≥8)=true:=decide_eq_true (by omega)
 have e8:bytesCells (digN 8 u)++V=bytesCells (digN 2 (u%100000000/10000/100))++(bytesCells (digN 2 (u%100000000/10000%100))++(bytesCells (digN 2 (u%100000000%10000/100))++(bytesCells (digN 2 (u%100000000%10000%100))++V))):=by
  rw[dig8,show u%100000000/10000/100=u/1000000%100 by omega,show u%100000000/10000%100=u/10000%100 by omega,show u%100000000%10000/100=u/100%100 by omega,show u%100000000%10000%100=u%100 by omega]
  simp only[bc_app,List.append_assoc]
 unfold B174_0
 rw[c8,iteC_if,if_pos rfl,t0,t1,t2,t3,t4]
 simp only[t5,t6]
 rw[t7 (u%100000000%10000) (by omega),t7 (u%100000000/10000) (by omega)]
 have p1:=fun K=>pr_step (R:=St⊕LR) (j:=u%100000000%10000%100) h hcs hN hM (by omega) (by omega) ((congrArg _ (congrArg (· + 1) (d2 _ (by omega)))).trans (d1 _ (by omega))) (d2 _ (by omega)) (wi 1 (by omega)) (wi 2 (by omega)) K
 refine (p1 _).trans ?_
 have h2:=get_setM hid (.cells (over cs (nd-2) (bytesCells (digN 2 (u%100000000%10000%100))++V)) (anyC M))
 have l2:(bytesCells (digN 2 (u%100000000%10000%100))++V).length=2+V.length:=by rw[List.length_append,bc_len,digN_len]
 have p2:=fun K=>pr_step (R:=St⊕LR) (N:=N) (j:=u%100000000%10000/100) h2 hcs (by omega) hM (by omega) (by omega) ((congrArg _ (congrArg (· + 1) (d2 _ (by omega)))).trans (d1 _ (by omega))) (d2 _ (by omega)) ((wi 3 (by omega)).trans (congrArg _ (by omega))) ((wi 4 (by omega)).trans (congrArg _ (by omega))) K
 refine (p2 _).trans ?_
 rw[setM_setM,show nd-2-2=nd-4 by omega]
 have h3:=get_setM hid (.cells (over cs (nd-4) (bytesCells (digN 2 (u%100000000%10000/100))++(bytesCells (digN 2 (u%100000000%10000%100))++V))) (anyC M))
 have l3:(bytesCells (digN 2 (u%100000000%10000/100))++(bytesCells (digN 2 (u%100000000%10000%100))++V)).length=4+V.length:=by rw[List.length_append,bc_len,digN_len,l2];omega
 have p3:=fun K=>pr_step (R:=St⊕LR) (N:=N) (j:=u%100000000/10000%100) h3 hcs (by omega) hM (by omega) (by omega) ((congrArg _ (congrArg (· + 1) (d2 _ (by omega)))).trans (d1 _ (by omega))) (d2 _ (by omega)) ((wi 5 (by omega)).trans (congrArg _ (by omega))) ((wi 6 (by omega)).trans (congrArg _ (by omega))) K
 refine (p3 _).trans ?_
 rw[setM_setM,show nd-4-2=nd-6 by omega]
 have h4:=get_setM hid (.cells (over cs (nd-6) (bytesCells (digN 2 (u%100000000/10000%100))++(bytesCells (digN 2 (u%100000000%10000/100))++(bytesCells (digN 2 (u%100000000%10000%100))++V)))) (anyC M))
 have l4:(bytesCells (digN 2 (u%100000000/10000%100))++(bytesCells (digN 2 (u%100000000%10000/100))++(bytesCells (digN 2 (u%100000000%10000%100))++V))).length=6+V.length:=by rw[List.length_append,bc_len,digN_len,l3];omega
 have p4:=fun K=>pr_step (R:=St⊕LR) (N:=N) (j:=u%100000000/10000/100) h4 hcs (by omega) hM (by omega) (by omega) ((congrArg _ (congrArg (· + 1) (d2 _ (by omega)))).trans (d1 _ (by omega))) (d2 _ (by omega)) ((wi 7 (by omega)).trans (congrArg _ (by omega))) ((wi 8 (by omega)).trans (congrArg _ (by omega))) K
 refine (p4 _).trans ?_
 rw[setM_setM,show nd-6-2=nd-8 by omega,e8,wu,show (8:Int)=((8:Nat):Int) from rfl,wi 8 (by omega)]
 rfl
theorem over_nil (cs:List IV) (p:Nat):over cs p []=cs:=by simp[over]
theorem tenp (a b:Nat) (h:b≤a):10^a=10^(a-b)*10^b:=by rw[←Nat.pow_add];congr 1;omega
theorem digN_cut (a b n:Nat) (h:b≤a):digN a n=digN b (n/10^(a-b))++digN (a-b) n:=by
 have:=digN_add (a-b) b n
 rwa [show b+(a-b)=a by omega] at this
theorem loop174 {id:Nat}{cs:List IV}{M N:Nat}(hcs:cs.length=M) (hM:N≤M) (hM2:M≤1000):∀(k:Nat) (V:List IV) (nd u:Nat) (m:IM),nd/8=k→m.get id=.cells (over cs nd V) (anyC M)→nd+V.length=N→u<18446744073709551616 →
  L174_0 (.sB id 0 N 1) u nd m=some (.exit 0,[.sB id 0 N 1,.int .u64 ((u/10^(nd-nd%8):Nat):Int),.int .i64 ((nd%8:Nat):Int)],[],setM m id (.cells (over cs (nd%8) (bytesCells (digN (nd-nd%8) u)++V)) (anyC M))):=by
 intro k
 induction k with
 |zero =>
  intro V nd u m hk h hN hu
  have hn:nd%8=nd:=Nat.mod_eq_of_lt (by omega)
  have c8:decide ((nd:Int)≥8)=false:=decide_eq_false (by omega)
  rw[hn,Nat.sub_self,Nat.pow_zero,Nat.div_one,L174_0_eq]
  unfold B174_0
  rw[c8,iteC_if,if_neg (by decide),nxt_inr]
  show _=some (Ex.exit 0,_,_,setM m id (.cells (over cs nd V) (anyC M)))
  rw[setM_self h (getM_lt h)]
 |succ k ih =>
  intro V nd u m hk h hN hu
  have hid:id<m.size:=getM_lt h
  have h8:8≤nd:=by omega
  have e:=ih (bytesCells (digN 8 u)++V) (nd-8) (u/100000000) _ (by omega) (get_setM hid (.cells (over cs (nd-8) (bytesCells (digN 8 u)++V)) (anyC M))) (by rw[List.length_append,bc_len,digN_len];omega) (by omega)
  have hm:(nd-8)%8=nd%8:=by omega
  have hd:=digN_add 8 (nd-8-nd%8) u
  rw[L174_0_eq,round174 h hcs hN hM hM2 h8 hu,nxt_inl]
  refine Eq.trans e ?_
  rw[hm,setM_setM,show u/100000000/10^(nd-8-nd%8)=u/10^(nd-nd%8) by rw[Nat.div_div_eq_div_mul,show (100000000:Nat)=10^8 from rfl,←Nat.pow_add];congr 2;omega,
   show nd-nd%8=nd-8-nd%8+8 by omega,hd,bc_app,List.append_assoc]
theorem c0_174 {m:IM}{id:Nat}{cs V:List IV}{M N nd x:Nat}(h:m.get id=.cells (over cs nd V) (anyC M)) (hcs:cs.length=M) (hN:nd+V.length=N) (hM:N≤M) (hM2:M≤1000) (h8:nd<8) (hx:x<4294967296) :
  C174_c0 (.sB id 0 N 1) nd x m=some (.normal,[.sB id 0 N 1,.int .i64 ((nd%4:Nat):Int),.int .u32 ((x/10^(nd-nd%4):Nat):Int)],[],setM m id (.cells (over cs (nd%4) (bytesCells (digN (nd-nd%4) x)++V)) (anyC M))):=by
 have hid:id<m.size:=getM_lt h
 unfold C174_c0
 by_cases g:4≤nd
 ·have t2:Int.tmod (x:Int) 10000=((x%10000:Nat):Int):=rfl
  have t3:Int.tdiv (x:Int) 10000=((x/10000:Nat):Int):=rfl
  have t4:IntKind.u32.wrap ((x/10000:Nat):Int)=((x/10000:Nat):Int):=wu32 (by omega) (by omega)
  have t5:Int.tmod ((x%10000:Nat):Int) 100=((x%10000%100:Nat):Int):=rfl
  have t6:Int.tdiv ((x%10000:Nat):Int) 100=((x%10000/100:Nat):Int):=rfl
  have t7:IntKind.u32.wrap ((x%10000/100:Nat):Int)=((x%10000/100:Nat):Int):=wu32 (by omega) (by omega)
  have d2:∀a:Nat,a<100→IntKind.u32.wrap ((a:Int)*2)=((2*a:Nat):Int):=fun a ha=>by rw[wu32 (by omega) (by omega)];omega
  have d1:∀a:Nat,a<100→IntKind.u32.wrap (((2*a:Nat):Int)+1)=((2*a+1:Nat):Int):=fun a ha=>by rw[wu32 (by omega) (by omega)];omega
  have wi:∀k:Nat,k≤4→IntKind.i64.wrap ((nd:Int)-(k:Int))=((nd-k:Nat):Int):=fun k hk=>by rw[w64 (by omega) (by omega)];omega
  have c4:decide ((nd:Int)≥4)=true:=decide_eq_true (by omega)
  have e4:bytesCells (digN 4 x)++V=bytesCells (digN 2 (x%10000/100))++(bytesCells (digN 2 (x%10000%100))++V):=by
   rw[dig4,show x%10000/100=x/100%100 by omega,show x%10000%100=x%100 by omega]
   simp only[bc_app,List.append_assoc]
  rw[c4,iteC_if,if_pos rfl,t2,t5,t6,t7,t3,t4]
  have p1:=fun K=>pr_step (R:=LR) (j:=x%10000%100) h hcs hN hM (by omega) (by omega) ((congrArg _ (congrArg (· + 1) (d2 _ (by omega)))).trans (d1 _ (by omega))) (d2 _ (by omega)) (wi 1 (by omega)) (wi 2 (by omega)) K
  refine (p1 _).trans ?_
  have h2:=get_setM hid (.cells (over cs (nd-2) (bytesCells (digN 2 (x%10000%100))++V)) (anyC M))
  have l2:(bytesCells (digN 2 (x%10000%100))++V).length=2+V.length:=by rw[List.length_append,bc_len,digN_len]
  have p2:=fun K=>pr_step (R:=LR) (N:=N) (j:=x%10000/100) h2 hcs (by omega) hM (by omega) (by omega) ((congrArg _ (congrArg (· + 1) (d2 _ (by omega)))).trans (d1 _ (by omega))) (d2 _ (by omega)) ((wi 3 (by omega)).trans (congrArg _ (by omega))) ((wi 4 (by omega)).trans (congrArg _ (by omega))) K
  refine (p2 _).trans ?_
  rw[setM_setM,show nd-2-2=nd%4 by omega,←e4,show (4:Int)=((4:Nat):Int) from rfl,wi 4 (by omega),show nd-4=nd%4 by omega,show nd-nd%4=4 by omega]
 ·have c4:decide ((nd:Int)≥4)=false:=decide_eq_false (by omega)
  have hn:nd%4=nd:=Nat.mod_eq_of_lt (by omega)
  rw[c4,iteC_if,if_neg (by decide),hn,Nat.sub_self,Nat.pow_zero,Nat.div_one]
  show _=some (Ex.normal,_,_,setM m id (.cells (over cs nd V) (anyC M)))
  rw[setM_self h hid]
theorem c1_174 {m:IM}{id:Nat}{cs V:List IV}{M N nd x:Nat}(h:m.get id=.cells (over cs nd V) (anyC M)) (hcs:cs.length=M) (hN:nd+V.length=N) (hM:N≤M) (hM2:M≤1000) (h8:nd<4) (hx:x<4294967296) :
  C174_c1 (.sB id 0 N 1) nd x m=some (.normal,[.sB id 0 N 1,.int .i64 ((nd%2:Nat):Int),.int .u32 ((x/10^(nd-nd%2):Nat):Int)],[],setM m id (.cells (over cs (nd%2) (bytesCells (digN (nd-nd%2) x)++V)) (anyC M))):=by
 have hid:id<m.size:=getM_lt h
 unfold C174_c1
 by_cases g:2≤nd
 ·have t5:Int.tmod (x:Int) 100=((x%100:Nat):Int):=rfl
  have t6:Int.tdiv (x:Int) 100=((x/100:Nat):Int):=rfl
  have t7:IntKind.u32.wrap ((x/100:Nat):Int)=((x/100:Nat):Int):=wu32 (by omega) (by omega)
  have d2:∀a:Nat,a<100→IntKind.u32.wrap ((a:Int)*2)=((2*a:Nat):Int):=fun a ha=>by rw[wu32 (by omega) (by omega)];omega
  have d1:∀a:Nat,a<100→IntKind.u32.wrap (((2*a:Nat):Int)+1)=((2*a+1:Nat):Int):=fun a ha=>by rw[wu32 (by omega) (by omega)];omega
  have wi:∀k:Nat,k≤4→k≤nd→IntKind.i64.wrap ((nd:Int)-(k:Int))=((nd-k:Nat):Int):=fun k hk h=>by rw[w64 (by omega) (by omega)];omega
  have c4:decide ((nd:Int)≥2)=true:=decide_eq_true (by omega)
  rw[c4,iteC_if,if_pos rfl,t5,t6,t7]
  have p1:=fun K=>pr_step (R:=LR) (j:=x%100) h hcs hN hM (by omega) (by omega) ((congrArg _ (congrArg (· + 1) (d2 _ (by omega)))).trans (d1 _ (by omega))) (d2 _ (by omega)) (wi 1 (by omega) (by omega)) (wi 2 (by omega) (by omega)) K
  refine (p1 _).trans ?_
  rw[digN2,show (2:Int)=((2:Nat):Int) from rfl,wi 2 (by omega) (by omega),show nd-2=nd%2 by omega,show nd-nd%2=2 by omega]
 ·have c4:decide ((nd:Int)≥2)=false:=decide_eq_false (by omega)
  have hn:nd%2=nd:=Nat.mod_eq_of_lt (by omega)
  rw[c4,iteC_if,if_neg (by decide),hn,Nat.sub_self,Nat.pow_zero,Nat.div_one]
  show _=some (Ex.normal,_,_,setM m id (.cells (over cs nd V) (anyC M)))
  rw[setM_self h hid]
theorem pow_div_lt (u a b:Nat) (h:b≤a) (hu:u<10^a):u/10^(a-b)<10^b:=by
 apply Nat.div_lt_of_lt_mul
 rw[←tenp a b h]
 exact hu
theorem call174 {m:IM}{id:Nat}{cs:List IV}{M N u:Nat}(h:m.get id=.cells cs (anyC M)) (hcs:cs.length=M) (hM:N≤M) (hM2:M≤1000) (hu:u<10^N) (hu2:u<18446744073709551616) :
  cw (.f 174) [.sB id 0 N 1,.int .u64 (u:Int)] m=some (.tup [],setM m id (.cells (over cs 0 (bytesCells (digN N u))) (anyC M))):=by
 have hid:id<m.size:=getM_lt h
 have hlen:POp.ev .lenSlice [.sB id 0 N 1]=some (.int .i64 (N:Int)):=rfl
 have nl:∀(X:Option (IV×IM)),notL (.sB id 0 N 1) X=X:=fun _=>rfl
 have hL:=loop174 hcs hM hM2 (N/8) [] N u m rfl (by rw[over_nil];exact h) (by simp) hu2
 rw[List.append_nil] at hL
 generalize ha:N%8=a at hL
 have ha8:a<8:=by omega
 have haN:a≤N:=by omega
 have hx1:=pow_div_lt u N a haN hu
 have hcut1:=digN_cut N a u haN
 generalize hx:u/10^(N-a)=x1 at hL hx1 hcut1
 have hp7:10^a≤10^7:=Nat.pow_le_pow_right (by decide) (by omega)
 have w1:IntKind.u32.wrap (x1:Int)=(x1:Int):=wu32 (by omega) (by omega)
 have h1:=get_setM hid (.cells (over cs a (bytesCells (digN (N-a) u))) (anyC M))
 have hC0:=c0_174 (N:=N) (x:=x1) h1 hcs (by rw[bc_len,digN_len];omega) hM hM2 ha8 (by omega)
 rw[setM_setM] at hC0
 generalize hb:a%4=b at hC0
 have hb4:b<4:=by omega
 have hba:b≤a:=by omega
 have hx2:=pow_div_lt x1 a b hba hx1
 have hcut2:=digN_cut a b x1 hba
 generalize hxx:x1/10^(a-b)=x2 at hC0 hx2 hcut2
 have hp3:10^b≤10^3:=Nat.pow_le_pow_right (by decide) (by omega)
 have h2:=get_setM hid (.cells (over cs b (bytesCells (digN (a-b) x1)++bytesCells (digN (N-a) u))) (anyC M))
 have hC1:=c1_174 (N:=N) (x:=x2) h2 hcs (by rw[List.length_append,bc_len,bc_len,digN_len,digN_len];omega) hM hM2 hb4 (by omega)
 rw[setM_setM] at hC1
 generalize hc:b%2=c at hC1
 have hcb:c≤b:=by omega
 have hx3:=pow_div_lt x2 b c hcb hx2
 have hcut3:=digN_cut b c x2 hcb
 generalize hxxx:x2/10^(b-c)=x3 at hC1 hx3 hcut3
 have hall:bytesCells (digN N u)=bytesCells (digN c x3)++(bytesCells (digN (b-c) x2)++(bytesCells (digN (a-b) x1)++bytesCells (digN (N-a) u))):=by
  rw[hcut1,hcut2,hcut3]
  simp only[bc_app,List.append_assoc]
 have h3:=get_setM hid (.cells (over cs c (bytesCells (digN (b-c) x2)++(bytesCells (digN (a-b) x1)++bytesCells (digN (N-a) u)))) (anyC M))
 have l3:(bytesCells (digN (b-c) x2)++(bytesCells (digN (a-b) x1)++bytesCells (digN (N-a) u))).length=N-c:=by
  rw[List.length_append,List.length_append,bc_len,bc_len,bc_len,digN_len,digN_len,digN_len];omega
 apply F174_call
 unfold F174
 rw[evC_of hlen,asI_mk,nl,hL,bindX_mk,exC_if,if_pos rfl]
 simp only[unc_cons,asI_mk,uI_cons,unn_nil,unbn_nil]
 rw[w1,hC0,bindX_mk,exC_if,if_pos rfl]
 simp only[unc_cons,asI_mk,uI_cons,unn_nil,unbn_nil]
 rw[hC1,bindX_mk,exC_if,if_pos rfl]
 simp only[unc_cons,asI_mk,uI_cons,unn_nil,unbn_nil]
 have hc2:c=0∨c=1:=by omega
 rcases hc2 with e | e
 ·subst e
  have c0:decide (((0:Nat):Int)>0)=false:=rfl
  rw[c0,iteC_if,if_neg (by decide),hall]
  exact settle_set rfl
 ·subst e
  have c0:decide (((1:Nat):Int)>0)=true:=rfl
  have hi:POp.ev (.indexS 1) [.sB id 0 N 1,.int .i64 0]=some (.pB id 0):=idx_sB id N 0 (by omega)
  have w8':IntKind.u8.wrap (IntKind.u32.wrap (48+(x3:Int)))=((48+x3:Nat):Int):=by
   rw[wu32 (by omega) (by omega),w8 (by omega) (by omega)];omega
  have o1:=over_cons cs 0 (.int .u8 ((48+x3:Nat):Int)) (bytesCells (digN (b-1) x2)++(bytesCells (digN (a-b) x1)++bytesCells (digN (N-a) u))) (by omega)
  have d1:bytesCells (digN 1 x3)=[.int .u8 ((48+x3:Nat):Int)]:=by
   simp only[digN,List.nil_append,bytesCells]
   rw[Nat.mod_eq_of_lt (by omega),dg_val _ (by omega)]
  rw[c0,iteC_if,if_pos rfl,evC_of hi,w8',stB h3 _ _ _ (by rw[over_lenB _ _ _ (by omega)];omega) (by omega),setM_setM,show over cs 1 _=over cs (0+1) _ from rfl,o1,hall,d1]
  exact settle_set rfl
theorem sl_box (id n:Nat) (h1:1≤n) (h:n≤24):POp.ev (.sliceA 24 1 false true) [.pB id 0,.int .i64 (n:Int)]=some (.sB id 0 n 1):=by
 have c2:(n:Int)≤24:=by omega
 have c3:(0:Int)≤(n:Int):=by omega
 have c4:¬0=n:=by omega
 simp[POp.ev,loHi,bnds,bnd,c2,c3,c4]
theorem byteVals_bc:∀(l:List UInt8),byteVals (bytesCells l)=some l
 |[]=>rfl
 |b::r=>by simp[bytesCells,byteVals,byteVals_bc r]
theorem by_box {R:Type}{m:IM}{id:Nat}{cs:List IV}{M:Nat}{s:List UInt8}(h:m.get id=.cells (over cs 0 (bytesCells s)) (anyC M)) (hcs:cs.length=M) (hs:s.length≤M) (K:List UInt8→Option R):bymC m (.sB id 0 s.length 1) K=K s:=by
 have e:cellsAt [] m (.pB id 0) (s.length*1)=some (bytesCells s):=by
  simp only[cellsAt,h]
  have hl:(over cs 0 (bytesCells s)).length=M:=by rw[over_lenB _ _ _ (by rw[bc_len];omega),hcs]
  have hc:cut (over cs 0 (bytesCells s)) 0 s.length=some (bytesCells s):=by
   unfold cut
   rw[if_pos (by omega)]
   simp only[over,List.take_zero,List.nil_append,List.drop_zero]
   rw[←bc_len s,List.take_left]
  rw[Nat.mul_one]
  exact hc
 have e2:bytesAt [] m (.sB id 0 s.length 1)=some s:=by
  simp only[bytesAt,srcOf,if_true,e]
  rw[bc_len,Nat.beq_refl]
  exact byteVals_bc s
 unfold bymC
 rw[e2]
theorem nd3 (i:Nat) (h:100≤i) (h2:i<18446744073709551616):decN i=digN (ndB i) i:=by
 unfold decN
 rw[if_neg (by omega)]
theorem call131 (i:Nat) (h:i<18446744073709551616) (m:IM):cw (.f 131) [.int .u64 (i:Int),.int .i64 10] m=some (.str (decN i),m):=by
 apply F131_call
 unfold F131
 rw[show ((10:Int)==10)=true from rfl,iteC_if,if_pos rfl]
 by_cases g:i<100
 ·have c1:decide ((i:Int)<100)=true:=decide_eq_true (by omega)
  have w1:IntKind.i64.wrap (i:Int)=(i:Int):=w64 (by omega) (by omega)
  rw[c1,iteC_if,if_pos rfl,w1,callC_cw (call172 i g m) (by rfl),asS_mk,smB_dec i g]
  exact settle_id rfl
 ·have c1:decide ((i:Int)<100)=false:=decide_eq_false (by omega)
  obtain⟨n1,n2,n3,n4⟩:=nd_spec (d:=i) (by omega) h
  have hd:=nd3 i (by omega) h
  rw[c1,iteC_if,if_neg (by decide)]
  generalize hq:([.int .u8 0,.int .u8 0,.int .u8 0,.int .u8 0,.int .u8 0,.int .u8 0,.int .u8 0,.int .u8 0,.int .u8 0,.int .u8 0,.int .u8 0,.int .u8 0,.int .u8 0,.int .u8 0,.int .u8 0,.int .u8 0,.int .u8 0,.int .u8 0,.int .u8 0,.int .u8 0,.int .u8 0,.int .u8 0,.int .u8 0,.int .u8 0]:List IV)=cs
  have hcs:cs.length=24:=by rw[←hq];rfl
  have hg:(pushM m (.cells cs (anyC 24))).get m.size=.cells cs (anyC 24):=get_pushM _ _
  have h174:=call174 hg hcs (N:=ndB i) (by omega) (by omega) n4 h
  rw[setM_pushM] at h174
  have hg2:(pushM m (.cells (over cs 0 (bytesCells (digN (ndB i) i))) (anyC 24))).get m.size=.cells (over cs 0 (bytesCells (digN (ndB i) i))) (anyC 24):=get_pushM _ _
  have hby:=fun K=>by_box (R:=IV×IM) hg2 hcs (by rw[digN_len];omega) K
  rw[digN_len] at hby
  refine (callC_cw (call173 i (by omega) h _) (by rfl) _).trans ?_
  rw[asI_mk,evC_of (sl_box m.size (ndB i) n1 (by omega))]
  refine (callC_cw h174 (by rfl) _).trans ?_
  rw[asT_mk,unn_nil,evC_of (sl_box m.size (ndB i) n1 (by omega)),hby,hd]
  exact settle_push rfl
theorem call63 (i:Nat) (h:i<18446744073709551616) (m:IM):cw (.f 63) [.int .u64 (i:Int),.int .i64 10] m=some (.str (decN i),m):=by
 apply F63_call
 unfold F63
 rw[callC_cw (call131 i h m) (by rfl),asS_mk]
 exact settle_id rfl
end Go.Idl
