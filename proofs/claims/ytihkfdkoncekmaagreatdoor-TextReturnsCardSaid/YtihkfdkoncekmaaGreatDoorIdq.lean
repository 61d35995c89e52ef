/- This text proves what the interpreter returns at the functions that TextReturns reaches, last part, and that it returns true at TextReturns; it has no conditions. -/
import Derived.Test.YtihkfdkoncekmaaGreatDoorIdp
import Derived.Test.YtihkfdkoncekmaaGreatDoorIdl
import Derived.Test.YtihkfdkoncekmaaGreatDoorIdn
import Derived.Test.YtihkfdkoncekmaaGreatDoorIdi
set_option linter.unusedSimpArgs false
set_option linter.unusedVariables false
namespace Go.Idl
theorem FF (S X:List UInt8) (hX:∀c,X[0]?=some c→la c=false):∀(W:List UInt8) (k a:Nat),(∀b,b∈W→la b=true)→S.drop a=W++X→(W.length<k∨W=[])→yc S k a=a+W.length
 |[],0,a,_,_,_=>rfl
 |[],k+1,a,_,h,_=>by
  have h0:=fw (x:=[]) h 0;rw[Nat.add_zero,List.nil_append] at h0;rw[yc,h0]
  cases hc:X[0]? with
  |none=>rfl
  |some c=>simp only[hX c hc,Bool.false_eq_true,if_false];rfl
 |b::r,0,a,_,_,hk=>by rcases hk with h | h;exact (Nat.not_lt_zero _ h).elim;cases h
 |b::r,k+1,a,hW,h,hk=>by
  have h0:=fw (x:=b::r) h 0;have h0:S[a]?=some b:=h0;have hd:S.drop (a+1)=r++X:=by rw[←List.drop_drop,h];rfl
  have:=FF S X hX r k (a+1) (fun c hc=>hW c (List.mem_cons_of_mem _ hc)) hd (by
   rcases hk with h | h
   ·simp only[List.length_cons] at h;exact .inl (by omega)
   ·cases h)
  rw[yc,h0];simp only[hW b List.mem_cons_self,if_true];rw[this,List.length_cons];omega
theorem oo {S W X:List UInt8}{a:Nat}(hW:∀b,b∈W→la b=true) (h:S.drop a=W++X) (hX:∀c,X[0]?=some c→la c=false):dz S a=a+W.length:=by
 refine FF S X hX W _ a hW h ?_;have hl:(S.drop a).length=W.length+X.length:=by rw[h,List.length_append]
 rw[List.length_drop] at hl;by_cases g:a≤S.length
 ·exact .inl (by omega)
 ·refine .inr (List.length_eq_zero_iff.1 (by omega))
theorem L9:∀(n:Nat) (b:UInt8),b∈pS [32,32] n→la b=true
 |0,b,h=>by cases h
 |n+1,b,h=>by
  rw[pS] at h;rcases List.mem_append.1 h with h | h
  ·simp only[List.mem_cons,List.not_mem_nil,or_false,or_self] at h;subst h;rfl
  ·exact L9 n b h
theorem Ez (li:Bool) (l:Nat) (b:UInt8) (h:b∈gx li l):la b=true:=by
 unfold gx at h;split at h
 ·rcases List.mem_cons.1 h with h | h
  ·subst h;rfl
  ·exact L9 l b h
 ·cases h
mutual
def qb (so:Bool):dL→dL
 |.mk k t ks vs=>.mk k t (if k=5 then (ib so k ks vs.length).map (fun i=>ks.getD i []) else []) ((ib so k ks vs.length).map fun i=>(lq so vs).getD i default)
def lq (so:Bool):List dL→List dL
 |[]=>[]
 |v::vs=>qb so v::lq so vs
end
theorem kP (so:Bool):∀vs:List dL,(lq so vs).length=vs.length
 |[]=>rfl
 |v::vs=>by unfold lq;simp[kP so vs]
theorem lM (so:Bool):∀(vs:List dL) (i:Nat) (h:i<vs.length),(lq so vs).getD i default=qb so vs[i]
 |v::vs,0,h=>by unfold lq;rfl
 |v::vs,i+1,h=>by
  unfold lq;simpa using lM so vs i (by simpa using h)
inductive H0:Nat→Int→dL→Prop
 |mk {d:Nat}{lv k:Int}{t:List UInt8}{ks:List (List UInt8)}{vs:List dL}:lv≤40→oc k t ks vs.length=0→(∀v,v∈vs→H0 d (lv+1) v)→H0 (d+1) lv (.mk k t ks vs)
theorem rB:∀(d:Nat) (v:dL) (lvl left:Int),0≤left→(gB v lvl left).1=0→41≤lvl+d→H0 d lvl v
 |0,.mk k t ks vs,lvl,left,_,h,hd=>by obtain⟨_,h1,_⟩:=mC h;omega
 |d+1,.mk k t ks vs,lvl,left,hl,h,hd=>by
  obtain⟨h0,h1,h2,h3,h4⟩:=mC h;refine .mk h1 h2 (fun v hv=>?_);have key:∀(l:List dL) (lf:Int),0≤lf→(gU l (lvl+1) lf).1=0→v∈l→∃x,0≤x∧(gB v (lvl+1) x).1=0:=by
   intro l
   induction l with
   |nil=>intro lf _ _ hv;cases hv
   |cons y r ih =>
    intro lf g1 g3 hv;obtain⟨e1,e2,_⟩:=rA g3;rcases List.mem_cons.1 hv with rfl | hv
    ·exact⟨lf,g1,e1⟩
    ·exact ih _ (mY y _ lf g1 e1).2 e2 hv
  obtain⟨x,x1,x3⟩:=key vs (left-1) (by omega) h3 hv;exact rB d v (lvl+1) x x1 x3 (by omega)
theorem jU {k:Int}{t:List UInt8}{ks:List (List UInt8)}{n:Nat}(h:f7 k t ks n=true):iz k t=true∧∀s,s∈ks→zY s:=by simp only[f7,Bool.and_eq_true] at h;refine⟨h.1.1.1,fun s hs=>?_⟩;have:=h.2;rw[Bool.not_eq_true',List.any_eq_false] at this;have:=this s hs;simp only[Bool.not_eq_true',Bool.not_eq_false] at this;exact Gm.1 this
theorem zj {t:List UInt8}(h:(gf t 0).2=true):∃c,t[0]?=some c∧(c=45∨fS c=true):=by
 have hg:=u7 h;unfold gf at h;by_cases g:lV t (t.length+1) (nm t 0)=nm t 0
 ·rw[if_pos g] at h;cases h
 ·by_cases q:t[0]?=some 45
  ·exact⟨45,q,.inl rfl⟩
  ·have e:nm t 0=0:=by unfold nm;rw[if_neg q]
   rw[e,lV] at g
   cases hc:t[0]? with
   |none=>rw[hc] at g;exact (g rfl).elim
   |some c =>
    rw[hc] at g;simp only at g
    cases hd:fS c with
    |true=>exact⟨c,rfl,.inr hd⟩
    |false=>rw[hd] at g;exact (g rfl).elim
theorem Lv {c:UInt8}(h:c=45∨fS c=true):la c=false∧c.toNat≠110∧c.toNat≠116∧c.toNat≠102∧c.toNat≠34∧¬(c.toNat=91∨c.toNat=123)∧(c.toNat=45∨fS c=true):=by
 have key:∀n,n<256→(UInt8.ofNat n=45∨fS (UInt8.ofNat n)=true)→la (UInt8.ofNat n)=false∧(UInt8.ofNat n).toNat≠110∧(UInt8.ofNat n).toNat≠116∧(UInt8.ofNat n).toNat≠102∧(UInt8.ofNat n).toNat≠34∧¬((UInt8.ofNat n).toNat=91∨(UInt8.ofNat n).toNat=123)∧((UInt8.ofNat n).toNat=45∨fS (UInt8.ofNat n)=true):=by decide +kernel
 have:=key c.toNat c.toNat_lt;rw[UInt8.ofNat_toNat] at this;exact this h
theorem Vp (so li:Bool) {k:Int}{t:List UInt8}(hk:k≤3) (ho:oc k t [] 0=0) (lvl:Nat) (lv:Int) (S W rest:List UInt8) (a n:Nat) (hW:∀b,b∈W→la b=true) (h:S.drop a=W++(gP so li (.mk k t [] []) lvl++rest)) (hn:PX rest[0]?) (hf:S.length<a+n) :
  lr S n lv a=some (.ok (.mk k t [] []) (a+W.length+(gP so li (.mk k t [] []) lvl).length)):=by
 obtain⟨o1,_,o3,_⟩:=jZ ho;obtain⟨ht,_⟩:=jU o3;have hlen:(S.drop a).length=W.length+((gP so li (.mk k t [] []) lvl).length+rest.length):=by rw[h,List.length_append,List.length_append]
 rw[List.length_drop] at hlen;have hne:1≤(gP so li (.mk k t [] []) lvl).length→∃n',n=n'+1:=fun q=>⟨n-1,by omega⟩
 have hd:S.drop (a+W.length)=gP so li (.mk k t [] []) lvl++rest:=by rw[←List.drop_drop,h,List.drop_left]
 have b0:∀c,(gP so li (.mk k t [] []) lvl++rest)[0]?=some c→la c=false→dz S a=a+W.length:=fun c hc hb=>oo hW h (fun c' hc'=>by rw[hc] at hc';cases hc';exact hb);have hat:=fw hd 0;rw[Nat.add_zero] at hat;have cases4:k=0∨k=1∨k=2∨k=3:=by omega
 rcases cases4 with rfl | rfl | rfl | rfl
 ·have e:gP so li (.mk 0 t [] []) lvl=[110,117,108,108]:=by unfold gP;rfl
  have et:t=[]:=by simpa[iz] using ht
  subst et;rw[e] at hd hat b0 hne ⊢;obtain⟨n',rfl⟩:=hne (by decide);have hb:=b0 110 rfl (by decide);have hat:S[a+W.length]?=some 110:=hat;have hw:=va [110,117,108,108] S rest _ hd;rw[lr,hb,hat];simp only;rw[if_pos (by decide),mK,hw]
 ·have e:gP so li (.mk 1 t [] []) lvl=t:=by unfold gP;rfl
  rw[e] at hd hat b0 hne ⊢;have et:t=[116,114,117,101]∨t=[102,97,108,115,101]:=by simpa[iz] using ht
  rcases et with rfl | rfl
  ·obtain⟨n',rfl⟩:=hne (by decide);have hb:=b0 116 rfl (by decide);have hat:S[a+W.length]?=some 116:=hat;have hw:=va [116,114,117,101] S rest _ hd;rw[lr,hb,hat];simp only;rw[if_neg (by decide),if_pos (by decide),mK,hw]
  ·obtain⟨n',rfl⟩:=hne (by decide);have hb:=b0 102 rfl (by decide);have hat:S[a+W.length]?=some 102:=hat;have hw:=va [102,97,108,115,101] S rest _ hd;rw[lr,hb,hat];simp only;rw[if_neg (by decide),if_neg (by decide),if_pos (by decide),mK,hw]
 ·have e:gP so li (.mk 2 t [] []) lvl=t:=by unfold gP;rfl
  rw[e] at hd hat b0 hne hlen ⊢;have et:(gf t 0).2=true∧(gf t 0).1=t.length:=by simpa[iz] using ht
  obtain⟨c,hc,hcn⟩:=zj et.1;have hgt:=u7 et.1;obtain⟨n',rfl⟩:=hne (by omega);obtain⟨q0,q1,q2,q3,q4,q5,q6⟩:=Lv hcn;have hc2:(t++rest)[0]?=some c:=by rw[List.getElem?_append_left (by omega)];exact hc
  have hb:=b0 c hc2 q0;rw[hc2] at hat;have hN:=RJ hd hn;rw[et.1,et.2] at hN;rw[lr,hb,hat];simp only;rw[if_neg q1,if_neg q2,if_neg q3,if_neg q4,if_neg q5,if_pos q6,hN];simp only;rw[if_pos trivial,hd];have:a+W.length+t.length-(a+W.length)=t.length:=by omega
  rw[this,List.take_left]
 ·have e:gP so li (.mk 3 t [] []) lvl=mq t:=by unfold gP;rfl
  rw[e] at hd hat b0 hne hlen ⊢;have et:zY t:=Gm.1 (by simpa[iz] using ht);have hql:(mq t).length=(t.flatMap fZ).length+2:=by simp only[mq,List.length_cons,List.length_append,List.length_nil]
  obtain⟨n',rfl⟩:=hne (by omega);have hb:=b0 34 rfl (by decide);have hat:S[a+W.length]?=some 34:=hat;have hd2:S.drop (a+W.length+1)=t.flatMap fZ++34::rest:=by rw[←List.drop_drop,hd];simp[mq]
  have hs:=GB S rest et n' (a+W.length+1) [] hd2 (by omega);rw[lr,hb,hat];simp only;rw[if_neg (by decide),if_neg (by decide),if_neg (by decide),if_pos (by decide),hs,hql];simp only[List.nil_append];congr 2;omega
theorem RP {o:Option UInt8}(h:o=some 44∨o=some 10∨o=some 93∨o=some 125∨o=none):PX o:=by intro c hc;rcases h with h | h | h | h | h<;>rw[h] at hc<;>cases hc<;>decide
def H6 (li:Bool) (lvl:Nat) (k:Int) (ks ts:List (List UInt8)) (p:Nat) (r:List Nat) (E rest:List UInt8):List UInt8:=mz li lvl k ks ts (p+1) r++(E++yd k::rest)
theorem SA (li:Bool) (lvl l2:Nat) (k:Int) (ks ts:List (List UInt8)) (p:Nat) (r:List Nat) (rest:List UInt8):PX (H6 li lvl k ks ts p r (gx li l2) rest)[0]?:=by
 apply RP;unfold H6
 cases r with
 |nil =>
  cases li with
  |false =>
   by_cases h:k=5
   ·simp[mz,gx,yd,h]
   ·simp[mz,gx,yd,h]
  |true=>simp[mz,gx]
 |cons j r=>simp[mz]
theorem Jx (o:Bool):yd (kd o)=cl o∧qS (kd o)=(if o then 123 else 91):=by cases o<;>exact⟨rfl,rfl⟩
theorem Jw (o:Bool):la (cl o)=false∧cl o≠44:=by cases o<;>exact⟨rfl,by decide⟩
theorem y8 {S X Y:List UInt8}{a:Nat}(h:S.drop a=X++Y):S.drop (a+X.length)=Y:=by rw[←List.drop_drop,h,List.drop_left]
theorem NM (so li o:Bool) (lvl:Nat) (lv:Int) (ks:List (List UInt8)) (vs:List dL) (S:List UInt8)
  (hks:o=true→∀s,s∈ks→zY s)
  (hV:∀(i:Nat) (h:i<vs.length) (W rest:List UInt8) (a n:Nat),(∀b,b∈W→la b=true)→S.drop a=W++(gP so li vs[i] (lvl+1)++rest)→PX rest[0]?→3*S.length+1≤3*a+n→a≤S.length→lr S n (lv+1) a=some (.ok (qb so vs[i]) (a+W.length+(gP so li vs[i] (lvl+1)).length)))
  (W0:List UInt8) (hW0:∀b,b∈W0→la b=true) (i a n:Nat) (T:List UInt8) (hT:PX T[0]?) (hi:i<vs.length) (hik:o=true→i<ks.length)
  (hd:S.drop a=W0++(kN li (kd o) ks i++(gP so li vs[i] (lvl+1)++T))) (hf:3*S.length+1≤3*a+n) (ha:a≤S.length) :
  ∃a4,w7 S n o a=some (.ok (if o then [ks.getD i []] else []) a4)∧∃a5,a≤a5∧a5≤S.length∧lr S n (lv+1) a4=some (.ok (qb so vs[i]) a5)∧S.drop a5=T:=by
 have hlen:(S.drop a).length=(W0).length+((kN li (kd o) ks i).length+((gP so li vs[i] (lvl+1)).length+T.length)):=by rw[hd,List.length_append,List.length_append,List.length_append]
 rw[List.length_drop] at hlen
 cases o with
 |false =>
  have hk:kN li (kd false) ks i=[]:=by simp[kN,kd]
  rw[hk,List.nil_append] at hd;rw[hk] at hlen;simp only[List.length_nil,Nat.zero_add] at hlen;have hv:=hV i hi _ T a n hW0 hd hT hf ha;refine⟨a,by simp[w7],_,by omega,by omega,hv,?_⟩;rw[Nat.add_assoc,←List.length_append];exact y8 (by rw[List.append_assoc];exact hd)
 |true =>
  have hkl:=hik rfl;have hx:ks.getD i []=ks[i]:=by simp[List.getD_eq_getElem?_getD,hkl]
  have hk:kN li (kd true) ks i=mq ks[i]++(58::if li then [32] else []):=by rw[←hx];simp[kN,kd]
  rw[hk] at hd hlen;rw[hx];have hc:=hks rfl ks[i] (List.getElem_mem hkl);generalize ks[i]=key at *;have hsp:∀b,b∈(if li then [32] else ([]:List UInt8))→la b=true:=by
   intro b hb;split at hb
   ·simp only[List.mem_cons,List.not_mem_nil,or_false] at hb;subst hb;rfl
   ·cases hb
  generalize (if li then [32] else ([]:List UInt8))=sp at *;have hd1:S.drop (a+(W0).length)=34::(key.flatMap fZ++34::(58::(sp++(gP so li vs[i] (lvl+1)++T)))):=by rw[y8 hd];simp[mq]
  have hd1':S.drop a=W0++(34::(key.flatMap fZ++34::(58::(sp++(gP so li vs[i] (lvl+1)++T))))):=by rw[hd];simp[mq]
  have hb1:=oo hW0 hd1' (fun c hc=>by cases hc;decide);have h34:S[a+(W0).length]?=some 34:=by have:=fw (x:=[]) hd1 0;rwa [Nat.add_zero] at this
  have hd2:S.drop (a+(W0).length+1)=key.flatMap fZ++34::(58::(sp++(gP so li vs[i] (lvl+1)++T))):=by rw[←List.drop_drop,hd1];rfl
  have hs:=GB S _ hc n _ [] hd2 (by omega);have hd3:S.drop (a+(W0).length+1+(key.flatMap fZ).length+1)=58::(sp++(gP so li vs[i] (lvl+1)++T)):=by rw[←List.drop_drop,y8 hd2];rfl
  generalize ha2:a+(W0).length+1+(key.flatMap fZ).length+1=a2 at *;have hb2:dz S a2=a2:=by have:=oo (W:=[]) (fun _ h=>by cases h) hd3 (fun c hc=>by cases hc;decide);rwa [List.length_nil,Nat.add_zero] at this
  have h58:S[a2]?=some 58:=by have:=fw (x:=[]) hd3 0;rwa [Nat.add_zero] at this
  have hd4:S.drop (a2+1)=sp++(gP so li vs[i] (lvl+1)++T):=by rw[←List.drop_drop,hd3];rfl
  have hl4:=dP h58;have hv:=hV i hi sp T (a2+1) n hsp hd4 hT (by omega) (by omega);have hlen4:(S.drop (a2+1)).length=sp.length+((gP so li vs[i] (lvl+1)).length+T.length):=by rw[hd4,List.length_append,List.length_append]
  rw[List.length_drop] at hlen4;refine⟨a2+1,?_,_,by omega,by omega,hv,?_⟩
  ·unfold w7;rw[hb1,if_pos rfl,if_pos h34,hs];simp only[hb2,h58,if_true,List.nil_append]
  ·rw[Nat.add_assoc (a2+1),←List.length_append];exact y8 (by rw[List.append_assoc];exact hd4)
theorem NW (so li o:Bool) (lvl:Nat) (lv:Int) (ks:List (List UInt8)) (vs:List dL) (S:List UInt8)
  (hks:o=true→∀s,s∈ks→zY s)
  (hV:∀(i:Nat) (h:i<vs.length) (W rest:List UInt8) (a n:Nat),(∀b,b∈W→la b=true)→S.drop a=W++(gP so li vs[i] (lvl+1)++rest)→PX rest[0]?→3*S.length+1≤3*a+n→a≤S.length→lr S n (lv+1) a=some (.ok (qb so vs[i]) (a+W.length+(gP so li vs[i] (lvl+1)).length)))
  (rest:List UInt8) :
  ∀(r:List Nat) (i p a n:Nat) (ks0:List (List UInt8)) (vs0:List dL) (W0:List UInt8),(∀b,b∈W0→la b=true)→(∀j,j∈i::r→j<vs.length∧(o=true→j<ks.length)) →
   S.drop a=W0++(kN li (kd o) ks i++((pJ so li vs (lvl+1)).getD i []++H6 li (lvl+1) (kd o) ks (pJ so li vs (lvl+1)) p r (gx li lvl) rest))→3*S.length+2≤3*a+n→a≤S.length →
   md S n o lv a ks0 vs0=some (.ok (.mk (kd o) [] (ks0++if o then (i::r).map (fun i=>ks.getD i []) else []) (vs0++(i::r).map fun i=>(lq so vs).getD i default)) (S.length-rest.length)):=by
 have fin:∀(i p a n:Nat) (r:List Nat) (ks0:List (List UInt8)) (vs0:List dL) (W0:List UInt8),(∀b,b∈W0→la b=true)→i<vs.length→(o=true→i<ks.length) →
   S.drop a=W0++(kN li (kd o) ks i++((pJ so li vs (lvl+1)).getD i []++H6 li (lvl+1) (kd o) ks (pJ so li vs (lvl+1)) p r (gx li lvl) rest))→3*S.length+2≤3*a+n→a≤S.length →
   ∃n' a5,n=n'+1∧a≤a5∧a5≤S.length∧S.drop a5=H6 li (lvl+1) (kd o) ks (pJ so li vs (lvl+1)) p r (gx li lvl) rest ∧
    md S n o lv a ks0 vs0=(if S[dz S a5]?=some (cl o) then some (.ok (.mk (kd o) [] (ks0++if o then [ks.getD i []] else []) (vs0++[(lq so vs).getD i default])) (dz S a5+1))
     else if S[dz S a5]?=some 44 then md S n' o lv (dz S a5+1) (ks0++if o then [ks.getD i []] else []) (vs0++[(lq so vs).getD i default]) else some (.err (dz S a5) 19)):=by
  intro i p a n r ks0 vs0 W0 hW0 hi hik hd hf ha;obtain⟨n',rfl⟩:∃n',n=n'+1:=⟨n-1,by omega⟩
  rw[rY so li vs (lvl+1) i hi] at hd;obtain⟨a4,e1,a5,g1,g2,e2,e3⟩:=NM so li o lvl lv ks vs S hks hV W0 hW0 i a n' _ (SA li (lvl+1) lvl (kd o) ks _ p r rest) hi hik hd (by omega) ha;refine⟨n',a5,rfl,g1,g2,e3,?_⟩;rw[md,e1];simp only[e2,lM so vs i hi]
 intro r
 induction r with
 |nil =>
  intro i p a n ks0 vs0 W0 hW0 hj hd hf ha;obtain⟨hi,hik⟩:=hj i List.mem_cons_self;obtain⟨n',a5,rfl,g1,g2,e3,e4⟩:=fin i p a n [] ks0 vs0 W0 hW0 hi hik hd hf ha;have e3':S.drop a5=gx li lvl++(cl o::rest):=by rw[e3,H6,mz,List.nil_append,(Jx o).1]
  have hb:=oo (Ez li lvl) e3' (fun c hc=>by cases hc;exact (Jw o).1);have hcl:S[a5+(gx li lvl).length]?=some (cl o):=by have:=fw (x:=gx li lvl) e3' (gx li lvl).length;rw[List.getElem?_append_right (Nat.le_refl _),Nat.sub_self] at this;exact this
  have hlt:=dP hcl;have hl:(S.drop a5).length=(gx li lvl).length+(rest.length+1):=by rw[e3',List.length_append,List.length_cons]
  rw[List.length_drop] at hl;rw[e4,hb,if_pos hcl];have hpos:a5+(gx li lvl).length+1=S.length-rest.length:=by omega
  rw[hpos]
  cases o<;>rfl
 |cons j r ih =>
  intro i p a n ks0 vs0 W0 hW0 hj hd hf ha;obtain⟨hi,hik⟩:=hj i List.mem_cons_self;obtain⟨n',a5,rfl,g1,g2,e3,e4⟩:=fin i p a n (j::r) ks0 vs0 W0 hW0 hi hik hd hf ha;have e3':S.drop a5=44::(gx li (lvl+1)++(kN li (kd o) ks j++((pJ so li vs (lvl+1)).getD j []++H6 li (lvl+1) (kd o) ks (pJ so li vs (lvl+1)) (p+1) r (gx li lvl) rest))):=by rw[e3];simp only[H6];rw[mz,if_pos (Nat.succ_pos p)];simp only[List.append_assoc,List.cons_append,List.nil_append]
  have hb:dz S a5=a5:=by have:=oo (W:=[]) (fun _ h=>by cases h) e3' (fun c hc=>by cases hc;decide);rwa [List.length_nil,Nat.add_zero] at this
  have h44:S[a5]?=some 44:=by have:=fw (x:=[]) e3' 0;rwa [Nat.add_zero] at this
  have hlt:=dP h44;have hd5:S.drop (a5+1)=gx li (lvl+1)++(kN li (kd o) ks j++((pJ so li vs (lvl+1)).getD j []++H6 li (lvl+1) (kd o) ks (pJ so li vs (lvl+1)) (p+1) r (gx li lvl) rest)):=by rw[←List.drop_drop,e3'];rfl
  have:=ih j (p+1) (a5+1) n' (ks0++if o then [ks.getD i []] else []) (vs0++[(lq so vs).getD i default]) (gx li (lvl+1)) (Ez li _) (fun x hx=>hj x (List.mem_cons_of_mem _ hx)) hd5 (by omega) (by omega);rw[e4,hb,h44,if_neg (fun q=>(Jw o).2 (Option.some.inj q).symm),if_pos rfl,this]
  cases o<;>simp
theorem RQ {c:UInt8}(h:c=45∨fS c=true):c≠93∧c≠125:=by
 have key:∀n,n<256→(UInt8.ofNat n=45∨fS (UInt8.ofNat n)=true)→UInt8.ofNat n≠93∧UInt8.ofNat n≠125:=by decide +kernel
 have:=key c.toNat c.toNat_lt;rw[UInt8.ofNat_toNat] at this;exact this h
theorem HX (so li:Bool) {d:Nat}{lv:Int}{v:dL}(h:H0 d lv v) (lvl:Nat):∃c X,gP so li v lvl=c::X∧la c=false∧c≠93∧c≠125:=by
 cases h with
 | @mk _ _ k t ks vs hlv ho hall =>
  obtain⟨o1,o2,o3,_⟩:=jZ ho;obtain⟨ht,_⟩:=jU o3;have h6:k=0∨k=1∨k=2∨k=3∨k=4∨k=5:=by omega
  rcases h6 with rfl | rfl | rfl | rfl | rfl | rfl
  ·exact⟨110,[117,108,108],by unfold gP;rfl,by decide,by decide,by decide⟩
  ·have et:t=[116,114,117,101]∨t=[102,97,108,115,101]:=by simpa[iz] using ht
   rcases et with rfl | rfl
   ·exact⟨116,[114,117,101],by unfold gP;rfl,by decide,by decide,by decide⟩
   ·exact⟨102,[97,108,115,101],by unfold gP;rfl,by decide,by decide,by decide⟩
  ·have et:(gf t 0).2=true∧(gf t 0).1=t.length:=by simpa[iz] using ht
   obtain⟨c,hc,hcn⟩:=zj et.1
   cases t with
   |nil=>cases hc
   |cons x X =>
    cases hc
    obtain⟨q0,_⟩:=Lv hcn;obtain⟨q1,q2⟩:=RQ hcn;exact⟨c,X,by unfold gP;rfl,q0,q1,q2⟩
  ·exact⟨34,t.flatMap fZ++[34],by unfold gP;rfl,by decide,by decide,by decide⟩
  ·exact⟨91,_,by unfold gP;rfl,by decide,by decide,by decide⟩
  ·exact⟨123,_,by unfold gP;rfl,by decide,by decide,by decide⟩
theorem Mu (so li:Bool) (S:List UInt8):∀(d:Nat) (v:dL) (lvl:Nat) (lv:Int) (W rest:List UInt8) (a n:Nat),H0 d lv v→(∀b,b∈W→la b=true)→S.drop a=W++(gP so li v lvl++rest)→PX rest[0]?→3*S.length+1≤3*a+n→a≤S.length →
  lr S n lv a=some (.ok (qb so v) (a+W.length+(gP so li v lvl).length))
 |0,v,lvl,lv,W,rest,a,n,hc,_,_,_,_,_=>by cases hc
 |d+1,.mk k t ks vs,lvl,lv,W,rest,a,n,hc,hW,hd,hn,hf,ha=>by
  cases hc with
  |mk hlv ho hall =>
   obtain⟨o1,o2,o3,_,_,o5,o6,o7⟩:=jZ ho;obtain⟨ht,hks⟩:=jU o3;by_cases hk:k≤3
   ·have e1:ks=[]:=o6 (by omega);have e2:vs=[]:=List.length_eq_zero_iff.1 (o7 (by omega) (by omega));subst e1 e2;have:=Vp so li hk ho lvl lv S W rest a n hW hd hn (by omega);rw[this];have hr:qb so (.mk k t [] [])=.mk k t [] []:=by
     unfold qb;rw[if_neg (by omega)];have:ib so k [] 0=[]:=by unfold ib;split<;>rfl
     rw[List.length_nil,this];rfl
    rw[hr]
   ·have hk45:k=4∨k=5:=by omega
    obtain⟨o,rfl⟩:∃o,k=kd o:=by
     rcases hk45 with rfl | rfl
     ·exact⟨false,rfl⟩
     ·exact⟨true,rfl⟩
    have et:t=[]:=by
     cases o<;>simpa[iz,kd] using ht
    subst et;have hp:gP so li (.mk (kd o) [] ks vs) lvl=qS (kd o)::(mz li (lvl+1) (kd o) ks (pJ so li vs (lvl+1)) 0 (ib so (kd o) ks vs.length)++((if vs=[] then [] else gx li lvl)++[yd (kd o)])):=by unfold gP;rw[if_neg (by omega),if_neg (by omega),if_neg (by omega)]
    have hlen:(S.drop a).length=W.length+((gP so li (.mk (kd o) [] ks vs) lvl).length+rest.length):=by rw[hd,List.length_append,List.length_append]
    rw[List.length_drop] at hlen;have hp1:2≤(gP so li (.mk (kd o) [] ks vs) lvl).length:=by rw[hp];simp only[List.length_cons,List.length_append,List.length_nil];omega
    obtain⟨n1,rfl⟩:∃m,n=m+1:=⟨n-1,by omega⟩
    have hpos:a+W.length+(gP so li (.mk (kd o) [] ks vs) lvl).length=S.length-rest.length:=by omega
    rw[hpos];rw[hp] at hd hp1;have hop:qS (kd o)=if o then 123 else 91:=(Jx o).2;have hb:=oo hW hd (fun c hc=>by
     simp only[List.cons_append,List.getElem?_cons_zero,Option.some.injEq] at hc;subst hc;rw[hop];cases o<;>rfl)
    have hd1:=y8 hd;have hat:S[a+W.length]?=some (qS (kd o)):=by have:=fw (x:=[]) hd1 0;rwa [Nat.add_zero] at this
    have hd2:S.drop (a+W.length+1)=mz li (lvl+1) (kd o) ks (pJ so li vs (lvl+1)) 0 (ib so (kd o) ks vs.length)++((if vs=[] then [] else gx li lvl)++(yd (kd o)::rest)):=by rw[←List.drop_drop,hd1];simp
    have hlt:=dP hat;have hval:lr S (n1+1) lv a=lj S n1 o lv (a+W.length+1):=by
     rw[lr,hb,hat,hop]
     cases o with
     |false=>simp[show ¬lv>40 by omega]
     |true=>simp[show ¬lv>40 by omega]
    obtain⟨n2,rfl⟩:∃m,n1=m+1:=⟨n1-1,by omega⟩
    rw[hval,lj]
    cases hol:ib so (kd o) ks vs.length with
    |nil =>
     have e0:vs=[]:=by have:=xA so (kd o) ks vs.length;rw[hol] at this;exact List.length_eq_zero_iff.1 this.symm
     rw[hol,mz,e0,if_pos rfl,List.nil_append,List.nil_append,(Jx o).1] at hd2;have hb2:dz S (a+W.length+1)=a+W.length+1:=by have:=oo (W:=[]) (fun _ h=>by cases h) hd2 (fun c hc=>by cases hc;exact (Jw o).1);rwa [List.length_nil,Nat.add_zero] at this
     have hcl:S[a+W.length+1]?=some (cl o):=by have:=fw (x:=[]) hd2 0;rwa [Nat.add_zero] at this
     have hlt2:=dP hcl;have hl2:(S.drop (a+W.length+1)).length=rest.length+1:=by rw[hd2,List.length_cons]
     rw[List.length_drop] at hl2;rw[hb2,if_pos hcl];have hr:qb so (.mk (kd o) [] ks vs)=.mk (kd o) [] [] []:=by unfold qb;rw[hol];simp
     rw[hr];congr 2;omega
    |cons i r =>
     have hne:vs≠[]:=by rintro rfl;have:=xA so (kd o) ks 0;rw[List.length_nil] at hol;rw[hol] at this;cases this
     rw[hol,mz,if_neg (by omega),if_neg hne,List.nil_append] at hd2;have hmem:∀j,j∈i::r→j<vs.length∧(o=true→j<ks.length):=by intro j hj;rw[←hol,xB] at hj;refine⟨hj,fun q=>?_⟩;subst q;rw[(o5 rfl).1];exact hj
     have hi:=(hmem i List.mem_cons_self).1;have hTs:(pJ so li vs (lvl+1)).getD i []=gP so li vs[i] (lvl+1):=rY so li vs (lvl+1) i hi;have hck:=hall vs[i] (List.getElem_mem hi);have hd3:S.drop (a+W.length+1)=gx li (lvl+1)++(kN li (kd o) ks i++((pJ so li vs (lvl+1)).getD i []++H6 li (lvl+1) (kd o) ks (pJ so li vs (lvl+1)) 0 r (gx li lvl) rest)):=by rw[hd2];simp only[H6,List.append_assoc]
     have hstart:∃c X,kN li (kd o) ks i++((pJ so li vs (lvl+1)).getD i []++H6 li (lvl+1) (kd o) ks (pJ so li vs (lvl+1)) 0 r (gx li lvl) rest)=c::X∧la c=false∧c≠cl o:=by
      cases o with
      |true=>exact⟨34,_,by simp only[kN,kd,if_true,mq];rfl,by decide,by decide⟩
      |false =>obtain⟨c,X,e,c1,c2,_⟩:=HX so li hck (lvl+1);refine⟨c,X++H6 li (lvl+1) (kd false) ks (pJ so li vs (lvl+1)) 0 r (gx li lvl) rest,?_,c1,c2⟩;rw[hTs,e];simp[kN,kd]
     obtain⟨c,X,hs1,hs2,hs3⟩:=hstart;have hd4:=y8 hd3;have hb2:=oo (Ez li _) hd3 (fun c' hc=>by rw[hs1] at hc;cases hc;exact hs2);have hcc:S[a+W.length+1+(gx li (lvl+1)).length]?=some c:=by have:=fw (x:=[]) (hd4.trans hs1) 0;rwa [Nat.add_zero] at this
     have hlt3:=dP hcc;rw[hb2,hcc,if_neg (fun q=>hs3 (Option.some.inj q))];have hL:=NW so li o lvl lv ks vs S (fun _=>hks)
      (fun j hj W' rest' a' n' hW' hd' hn' hf' ha'=>Mu so li S d vs[j] (lvl+1) (lv+1) W' rest' a' n' (hall _ (List.getElem_mem hj)) hW' hd' hn' hf' ha')
      rest r i 0 (a+W.length+1+(gx li (lvl+1)).length) n2 [] [] [] (fun _ h=>by cases h) hmem (by rw[List.nil_append];exact hd4) (by omega) (by omega)
     rw[hL];have hr:qb so (.mk (kd o) [] ks vs)=.mk (kd o) [] ([]++if o=true then (i::r).map (fun i=>ks.getD i []) else []) ([]++(i::r).map fun i=>(lq so vs).getD i default):=by
      unfold qb;rw[hol]
      cases o<;>simp[kd]
     rw[hr]
theorem Gw (so:Bool):∀vs:List dL,(∀v,v∈vs→qb so v=v)→lq so vs=vs
 |[],_=>by unfold lq;rfl
 |v::vs,h=>by
  unfold lq;rw[h v List.mem_cons_self,Gw so vs (fun x hx=>h x (List.mem_cons_of_mem _ hx))]
theorem mG {α:Type}(l:List α) (d:α):((List.range l.length).map fun i=>l.getD i d)=l:=by
 apply List.ext_getElem
 ·simp
 ·intro i h1 h2;simp[List.getD_eq_getElem?_getD,h2]
theorem L6:∀(d:Nat) (v:dL) (lv:Int),H0 d lv v→qb false v=v
 |0,v,lv,h=>by cases h
 |d+1,.mk k t ks vs,lv,h=>by
  cases h with
  |mk hlv ho hall =>
   obtain⟨_,_,_,_,_,o5,o6,_⟩:=jZ ho;have hr:=Gw false vs (fun v hv=>L6 d v (lv+1) (hall v hv));have ho:ib false k ks vs.length=List.range vs.length:=by simp[ib]
   unfold qb;rw[ho,hr,mG];by_cases g:k=5
   ·rw[if_pos g,← (o5 g).1,mG]
   ·rw[if_neg g,o6 g]
end Go.Idl
namespace Go.Idl
attribute [local go_sem] bM bL gI gS bg bO bV cr ct cD cH cG bA bc bN ba bb cE bw aZ cJ aX aE aO aG aF aA cM cA bF bG cN cO bH dS cQ bI cS cP cU cK bE bB bC aY bD cI a6 aP a8 a7 bJ av aB aV aD dt dq bQ bk bS cx bP cu bR cy List.flatMap_cons List.flatMap_nil
section
variable {R:Type}{m:IM}{id:Nat}{so li:Bool}{out:List UInt8}{c:cV}
end
theorem Ar:∀x y:List UInt8,aT x y=true↔x.map UInt8.toNat<y.map UInt8.toNat
 |[],[]=>by simp[aT]
 |[],b::y=>by simp[aT]
 |a::x,[]=>by simp[aT]
 |a::x,b::y=>by
  rw[aT,List.map_cons,List.map_cons,List.cons_lt_cons_iff,Bool.or_eq_true,Bool.and_eq_true,decide_eq_true_eq,beq_iff_eq,Ar x y]
theorem map_inj {x y:List UInt8}(h:x.map UInt8.toNat=y.map UInt8.toNat):x=y:=by
 induction x generalizing y with
 |nil=>cases y with
  |nil=>rfl
  |cons b y=>simp at h
 |cons a x ih =>
  cases y with
  |nil=>simp at h
  |cons b y =>simp only[List.map_cons,List.cons.injEq] at h;rw[UInt8.toNat_inj.1 h.1,ih h.2]
theorem Je (x:List UInt8):aT x x=false:=by rw[Bool.eq_false_iff];intro h;exact List.lt_irrefl _ ((Ar x x).1 h)
theorem B7 {x y z:List UInt8}(h1:aT x y=true) (h2:aT y z=true):aT x z=true:=by rw[Ar] at *;exact List.lt_trans h1 h2
theorem Jd {x y:List UInt8}(h:aT x y=true):aT y x=false:=by rw[Bool.eq_false_iff];intro h2;have:=B7 h h2;rw[Je] at this;cases this
theorem Jf (x y:List UInt8):aT x y=true∨x=y∨aT y x=true:=by
 by_cases h1:aT x y=true
 ·exact .inl h1
 ·by_cases h2:aT y x=true
  ·exact .inr (.inr h2)
  ·refine .inr (.inl (map_inj ?_));rw[Ar] at h1 h2;exact List.le_antisymm (List.not_lt.1 h2) (List.not_lt.1 h1)
def jk (ks:List (List UInt8)) (a b:Nat):Prop:=aT (ks.getD b []) (ks.getD a [])=false
theorem jG {ks:List (List UInt8)}{a b c:Nat}(h1:jk ks a b) (h2:jk ks b c):jk ks a c:=by
 unfold jk at *;rw[Bool.eq_false_iff];intro h;rcases Jf (ks.getD a []) (ks.getD b []) with q | q | q
 ·rw[B7 h q] at h2;cases h2
 ·rw[q,h2] at h;cases h
 ·rw[q] at h1;cases h1
theorem sW {ks:List (List UInt8)}{a b:Nat}(h:aT (ks.getD a []) (ks.getD b [])=true):jk ks a b:=Jd h
theorem tN (ks:List (List UInt8)) (i:Nat):∀l:List Nat,l.Pairwise (jk ks)→(uu ks i l).Pairwise (jk ks)
 |[],_=>by simp[uu]
 |j::r,h=>by
  obtain⟨h1,h2⟩:=List.pairwise_cons.1 h;unfold uu;split
  ·rename_i g;refine List.pairwise_cons.2 ⟨fun x hx=>?_,h⟩;rcases List.mem_cons.1 hx with rfl | hx
   ·exact sW g
   ·exact jG (sW g) (h1 x hx)
  ·rename_i g;refine List.pairwise_cons.2 ⟨fun x hx=>?_,tN ks i r h2⟩;rcases (wY ks i r x).1 hx with rfl | hx
   ·unfold jk;simpa using g
   ·exact h1 x hx
theorem tV (ks:List (List UInt8)):∀n:Nat,(uy ks n).Pairwise (jk ks)
 |0=>List.Pairwise.nil
 |n+1=>tN ks n _ (tV ks n)
def Wb (v:dL):Prop:=∀(c:List IV) (m:IM),gh v c→sk v→∃c',gh v c'∧cw (.f 19) [.agg c] m=some (.agg c',m)
theorem RF (vs:List dL) (row:List IV) (hr:nX vs row) (hok:Bx vs) (hn:vs.length≤1000000) (ih:∀v,v∈vs→Wb v) (k:Int) (t:List UInt8) (K:IV) (m:IM):∀(j i:Nat) (V:IV),vs.length=i+j→mL V (vs.take i) →
  ∃V',mL V' vs∧Fq (.sl row vs.length) vs.length i 0 [] .aa .aa k t K V m=some (.exit 0,[],[xZ 0 [],.cells [.int .i64 k,.str t,K,V'] [.any,.any,.any,.own 4]],m):=by
 have hml:aH=1099511627776:=rfl;intro j
 induction j with
 |zero =>
  intro i V hk hV;have c1:¬(i:Int)<(vs.length:Int):=by omega
  rw[List.take_of_length_le (by omega)] at hV;refine⟨V,hV,?_⟩;rw[vG];simp[Ff,go_sem,c1,xZ]
 |succ j ihj =>
  intro i V hk hV;have hi:i<vs.length:=by omega
  have c1:(i:Int)<(vs.length:Int):=by omega
  have e2:IntKind.i64.wrap ((i:Int)+1)=((i+1:Nat):Int):=by rw[w64 (by omega) (by omega)];rfl
  obtain⟨c,hc,hcut⟩:=hr.get i hi;have hv:vs[i]∈vs:=List.getElem_mem hi;obtain⟨c',hc',hcall⟩:=ih _ hv c m hc (hok.mem hv);obtain⟨a,t1,K1,V1,rfl,hK,hV1,_,_⟩:=hc.cells;obtain⟨a',t2,K2,V2,rfl,hK2,hV2,hKp,hVp⟩:=hc'.cells;have hcc:=fun (K2:IV→IM→Option (St⊕LR))=>ae hcall (by simp[go_sem,hK,hV1]) K2;obtain⟨V',hV',hap⟩:=hV.app hc' (by rw[List.length_take];omega);have hV'':mL V' (vs.take (i+1)):=by rw[List.take_succ_eq_append_getElem hi];exact hV'
  obtain⟨W,hW,hL⟩:=ihj (i+1) V' (by omega) hV'';refine⟨W,hW,?_⟩;rw[vG,←hL];generalize i+1=i2 at *;simp only[Ff,go_sem,c1,decide_true,if_true,au (ur hi),gi hcut,af hK,af hV1,hcc,iC hKp,iC hVp,hap,hV'.iy,af hV'.refs,dk,e2];rfl
theorem PY (v:dL):Wb v:=by
 obtain⟨k,t,ks,vs⟩:=v;intro c m hc hok;have ih:∀v,v∈vs→Wb v:=fun v hv=>by
  have:SizeOf.sizeOf v<SizeOf.sizeOf vs:=List.sizeOf_lt_of_mem hv;exact PY v
 cases hc with
 | @mk _ _ _ _ K V hK hV =>
  cases hok with
  |mk h1 h2 h3 h4 h5 =>
   obtain⟨K',hK',h50⟩:=PZ hK h2 m;have hcell:K.cells=[K]:=by rcases hK with ⟨rfl,_⟩ | rfl<;>rfl
   have h50c:=fun (K2:IV→IM→Option (IV×IM))=>ae h50 (by simp[go_sem,hcell,hK.refs]) K2;have hone:∀(X:Option (IV×IM)),xw K' X=X:=fun X=>by rcases hK' with ⟨rfl,_⟩ | rfl<;>rfl
   have hlen:=hV.len;have hnl:=iB hV.refs (R:=IV×IM)
   cases hV with
   |nil =>
    refine⟨_,.mk hK' .nil,?_⟩;apply BG;have hL:Fq .aa 0 0 0 [] .aa .aa k t K' .aa m=some (.exit 0,[],[xZ 0 [],.cells [.int .i64 k,.str t,K',.aa] [.any,.any,.any,.own 4]],m):=by rw[vG];simp[Ff,go_sem,xZ]
    simp only[Wf,af hK.refs,af (v:=.aa) rfl,h50c,hone,af hK'.refs,au hlen,bV,hnl,show (((([]:List dL).length:Nat)):Int)=0 from rfl,hL,xZ];simp[go_sem,af hK'.refs,hK'.refs];rfl
   | @sl _ row n hr hn =>subst hn;obtain⟨V',hV',hL⟩:=RF vs row hr h4 h5 ih k t K' m vs.length 0 .aa (by omega) (by rw[List.take_zero];exact .nil);rw[show ((0:Nat):Int)=0 from rfl] at hL;refine⟨_,.mk hK' hV',?_⟩;apply BG;simp only[Wf,af hK.refs,af (mL.refs (.sl hr rfl)),h50c,hone,af hK'.refs,au hlen,bV,hnl,hL,xZ];simp[go_sem,af hK'.refs,af hV'.refs,hK'.refs,hV'.refs]
termination_by SizeOf.sizeOf v
decreasing_by simp_wf;omega
mutual
def kX:dL→Int→Int
 |.mk _ t ks vs,lvl=>if lvl>50 then 100 else uk vs (lvl+1) (1+ks.length+(t.length/200:Nat))
def uk:List dL→Int→Int→Int
 |[],_,n=>n
 |v::r,lvl,n=>if n≤60 then uk r lvl (n+kX v lvl) else n
end
inductive ql:dL→Prop
 |mk {k:Int}{t:List UInt8}{ks:List (List UInt8)}{vs:List dL}:t.length≤140737488355328→ks.length≤140737488355328→(∀s,s∈ks→s.length≤140737488355328)→vs.length≤140737488355328→(∀v,v∈vs→ql v)→ql (.mk k t ks vs)
theorem FX (M lvl:Int) (hM:0≤M):∀(vs:List dL) (n:Int),(∀v,v∈vs→1≤kX v lvl∧kX v lvl≤M)→0≤n→n≤M+60→n≤uk vs lvl n∧uk vs lvl n≤M+60
 |[],n,_,_,_=>by unfold uk;omega
 |v::r,n,h,h0,h1=>by
  have hv:=h v List.mem_cons_self;rw[uk];split
  ·have:=FX M lvl hM r (n+kX v lvl) (fun y hy=>h y (List.mem_cons_of_mem _ hy)) (by omega) (by omega);omega
  ·omega
theorem Ay:∀(d:Nat) (v:dL) (lvl:Int),ql v→0≤lvl→lvl+d=51→1≤kX v lvl∧kX v lvl≤150000000000000+60*(d:Int)
 |0,.mk k t ks vs,lvl,h,h0,hd=>by
  unfold kX;rw[if_pos (by omega)];omega
 |d+1,.mk k t ks vs,lvl,h,h0,hd=>by
  cases h with
  |mk h1 h2 h3 h4 h5 =>unfold kX;rw[if_neg (by omega)];have ih:=fun v hv=>Ay d v (lvl+1) (h5 v hv) (by omega) (by omega);have:=FX (150000000000000+60*(d:Int)) (lvl+1) (by omega) vs (1+ks.length+(t.length/200:Nat)) ih (by omega) (by omega);omega
theorem FY (lvl:Int):∀(vs:List dL) (n:Int),(∀v,v∈vs→1≤kX v lvl)→0≤n→uk vs lvl n≤60→n+vs.length≤60∧∀v,v∈vs→kX v lvl≤60
 |[],n,_,_,h=>by unfold uk at h;exact⟨by simpa using h,fun v hv=>by cases hv⟩
 |v::r,n,hp,h0,h=>by
  have hv:=hp v List.mem_cons_self;rw[uk] at h;by_cases g:n≤60
  ·rw[if_pos g] at h;obtain⟨h1,h2⟩:=FY lvl r (n+kX v lvl) (fun y hy=>hp y (List.mem_cons_of_mem _ hy)) (by omega) h;refine⟨by rw[List.length_cons];omega,fun y hy=>?_⟩;rcases List.mem_cons.1 hy with rfl | hy
   ·omega
   ·exact h2 y hy
  ·rw[if_neg g] at h;omega
theorem EK:∀vs:List dL,(∀v,v∈vs→sk v)→Bx vs
 |[],_=>.nil
 |v::r,h=>.cons (h v List.mem_cons_self) (EK r (fun x hx=>h x (List.mem_cons_of_mem _ hx)))
theorem Dh:∀(d:Nat) (v:dL) (lvl:Int),ql v→0≤lvl→lvl+d=51→kX v lvl≤60→sk v
 |0,.mk k t ks vs,lvl,h,h0,hd,hc=>by
  unfold kX at hc;rw[if_pos (by omega)] at hc;omega
 |d+1,.mk k t ks vs,lvl,h,h0,hd,hc=>by
  cases h with
  |mk h1 h2 h3 h4 h5 =>unfold kX at hc;rw[if_neg (by omega)] at hc;obtain⟨q1,q2⟩:=FY (lvl+1) vs _ (fun v hv=>(Ay d v (lvl+1) (h5 v hv) (by omega) (by omega)).1) (by omega) hc;refine .mk h1 (by omega) h3 (EK vs (fun v hv=>Dh d v (lvl+1) (h5 v hv) (by omega) (by omega) (q2 v hv))) (by omega)
theorem Ys (lvl:Int) (h0:0≤lvl) (hl:lvl≤50) (k:Int) (t:List UInt8) (K V:IV) (vs:List dL) (hV:mL V vs) (hvs:vs.length≤140737488355328) (hp:∀v,v∈vs→1≤kX v (lvl+1)∧kX v (lvl+1)≤160000000000000)
  (hI:∀v,v∈vs→∀(c:List IV) (m:IM),gh v c→cw (.f 51) [.agg c,.int .i64 (lvl+1)] m=some (.int .i64 (kX v (lvl+1)),m)) (m:IM):∀(j i:Nat) (n:Int),vs.length=i+j→0≤n→n≤170000000000000 →
  Fu lvl n i k t K V m=some (.exit 0,[.int .i64 (uk (vs.drop i) (lvl+1) n)],[],m):=by
 intro j
 induction j with
 |zero =>
  intro i n hj _ _;have c1:¬(i:Int)<(vs.length:Int):=by omega
  have hC:vl lvl n i k t K V m=some (.normal,[.int .i64 lvl,.int .i64 n,.int .i64 (i:Int),.bool false],[.cells [.int .i64 k,.str t,K,V] [.any,.any,.any,.any]],m):=by simp only[vl,au hV.len,go_sem,decide_eq_false c1,Bool.false_eq_true,if_false]
  rw[BQ,List.drop_eq_nil_iff.2 (by omega),uk];simp only[Fi,hC,go_sem,if_true,Bool.false_eq_true,if_false]
 |succ j ih =>
  intro i n hj hn0 hn1;have hi:i<vs.length:=by omega
  have c1:(i:Int)<(vs.length:Int):=by omega
  have hC:vl lvl n i k t K V m=some (.normal,[.int .i64 lvl,.int .i64 n,.int .i64 (i:Int),.bool (decide (n≤60))],[.cells [.int .i64 k,.str t,K,V] [.any,.any,.any,.any]],m):=by simp only[vl,au hV.len,go_sem,decide_eq_true c1,if_true]
  have hv:vs[i]∈vs:=List.getElem_mem hi;have hb:=hp _ hv;rw[BQ,List.drop_eq_getElem_cons hi,uk];by_cases g:n≤60
  ·rw[decide_eq_true g] at hC;rw[if_pos g];have hw:IntKind.i64.wrap ((i:Int)+1)=((i+1:Nat):Int):=by rw[w64 (by omega) (by omega)];rfl
   have hw2:IntKind.i64.wrap (lvl+1)=lvl+1:=w64 (by omega) (by omega);have hw3:IntKind.i64.wrap (n+kX vs[i] (lvl+1))=n+kX vs[i] (lvl+1):=w64 (by omega) (by omega);have h:=ih (i+1) (n+kX vs[i] (lvl+1)) (by omega) (by omega) (by omega)
   cases hV with
   |nil=>simp at hi
   | @sl _ row nn hr hnn =>
    obtain⟨c,hc,hcut⟩:=hr.get i hi;have hcall:=hI _ hv c m hc;obtain⟨k',t',K',V',rfl,hK',hV',_,_⟩:=hc.cells;have h1:=fun K2:IV→IM→Option (St⊕LR)=>ae hcall (by simp[go_sem,hK',hV']) K2;have hin:i<nn:=by omega
    rw[←h];generalize i+1=i2 at *;simp only[Fi,hC,go_sem,if_true,au (ur hin),gi hcut,hw2,h1,hw3,hw];rfl
  ·rw[decide_eq_false g] at hC;rw[if_neg g];simp only[Fi,hC,go_sem,if_true,Bool.false_eq_true,if_false]
theorem mU.WJ {K:IV}{ks:List (List UInt8)}(h:mU K ks):dW.ev .ay [K]=some (.int .i64 (ks.length:Int)):=pf h
theorem FZ:∀(d:Nat) (v:dL) (c:List IV) (lvl:Int) (m:IM),ql v→gh v c→0≤lvl→lvl+d=51→cw (.f 51) [.agg c,.int .i64 lvl] m=some (.int .i64 (kX v lvl),m)
 |0,.mk k t ks vs,c,lvl,m,hb,hc,h0,hd=>by
  have g:lvl>50:=by omega
  obtain⟨k',t',K',V',rfl,hK',hV',_,_⟩:=hc.cells;apply BI;unfold kX;rw[if_pos g];simp only[Wh,af hK',af hV',go_sem,decide_eq_true g,if_true]
 |d+1,.mk k t ks vs,c,lvl,m,hb,hc,h0,hd=>by
  have g:¬lvl>50:=by omega
  cases hb with
  |mk h1 h2 h3 h4 h5 =>
   cases hc with
   | @mk _ _ _ _ K V hK hV =>
    have e1:Int.tdiv (t.length:Int) 200=((t.length/200:Nat):Int):=rfl;have w0:IntKind.i64.wrap ((t.length/200:Nat):Int)=((t.length/200:Nat):Int):=w64 (by omega) (by omega);have w1:IntKind.i64.wrap (1+(ks.length:Int))=1+(ks.length:Int):=w64 (by omega) (by omega);have w2:IntKind.i64.wrap (1+(ks.length:Int)+((t.length/200:Nat):Int))=1+(ks.length:Int)+((t.length/200:Nat):Int):=w64 (by omega) (by omega);have hL:=Ys lvl h0 (by omega) k t K V vs hV h4 (fun v hv=>by have:=Ay d v (lvl+1) (h5 v hv) (by omega) (by omega);omega)
     (fun v hv c m hc=>FZ d v c (lvl+1) m (h5 v hv) hc (by omega) (by omega)) m vs.length 0 (1+(ks.length:Int)+((t.length/200:Nat):Int)) (by omega) (by omega) (by omega)
    rw[List.drop_zero] at hL;have hL':Fu lvl (1+(ks.length:Int)+((t.length/200:Nat):Int)) 0 k t K V m=_:=hL;apply BI;unfold kX;rw[if_neg g];simp only[Wh,af hK.refs,af hV.refs,go_sem,decide_eq_false g,Bool.false_eq_true,if_false,au hK.WJ,e1,w0,w1,w2,hL',if_true]
theorem On (v:dL) (c:List IV) (m:IM) (hb:ql v) (hc:gh v c):cw (.f 17) [.agg c] m=some (.bool (decide (kX v 0≤60)),m):=by have h:=FZ 51 v c 0 m hb hc (by omega) (by omega);obtain⟨k,t,K,V,rfl,hK,hV,_,_⟩:=hc.cells;have h1:=fun K2:IV→IM→Option (IV×IM)=>ae h (by simp[go_sem,hK,hV]) K2;apply Io;simp only[X4,af hK,af hV,h1,go_sem]
section
set_option maxRecDepth 100000
def VK:gO:=js [(.one .str,[0,1,5,6]),(.one (.int .i64),[4,7])]
def U4:Pl:=.z
noncomputable def TI (a b:List UInt8) (m:IM):Option (IV×IM):=an cw (.f 174) [.str a,.str b] [] m fun v0 m1=>fG .i64 v0 fun n2=>settle m m1 (.int .i64 n2)
theorem G4 a b m {res} (h:TI a b m=some res):cw (.f 170) [.str a,.str b] m=some res:=aJ rfl rfl ((by kernel_rfl:eL VK U4 i170 cw _ _=_).trans h)
def VL:gO:=js [(.one .str,[0,1,5,6]),(.one (.int .i64),[4,7])]
def U6:Pl:=.z
noncomputable def TK (a b:List UInt8) (m:IM):Option (IV×IM):=an cw (.f 182) [.str a,.str b] [] m fun v0 m1=>fG .i64 v0 fun n2=>settle m m1 (.int .i64 n2)
theorem G6 a b m {res} (h:TK a b m=some res):cw (.f 174) [.str a,.str b] m=some res:=aJ rfl rfl ((by kernel_rfl:eL VL U6 i174 cw _ _=_).trans h)
end
def dM (m:IM) (id:Nat) (l:List Nat):IM:=aW m id (.cells (dj l) (List.replicate l.length .any))
theorem JB {m:IM}{id:Nat}(h:id<m.size) (l:List Nat):(dM m id l).get id=.cells (dj l) (List.replicate l.length .any):=lX h _
theorem Ue {m:IM}{id vb:Nat}(h:vb≠id) (l:List Nat):(dM m id l).get vb=m.get vb:=Cn h _
theorem Ud (m:IM) (id:Nat) (l l':List Nat):dM (dM m id l) id l'=dM m id l':=az _ _ _ _
theorem i7 (m:IM) (id:Nat) (l l':List Nat):settle (dM m id l) (dM m id l') (.db [])=some (.db [],dM m id l'):=by rw[←Ud m id l l'];exact aB rfl
theorem Uf {R:Type}{m:IM}{id:Nat}(h:id<m.size) {l:List Nat}{i:Nat}(hi:i<l.length) (K:IV→Option R):lD (dM m id l) false 1 (.pB id i) K=K (.int .i64 ((l[i]:Nat):Int)):=by rw[cA,f8 (JB h l)];exact dD (by simp[dj,hi]) K
theorem tJ {R:Type}{m:IM}{id:Nat}(h:id<m.size) {l:List Nat}{i:Nat}(hi:i<l.length) (x:Nat) (K:IM→Option R):lN (dM m id l) (.pB id i) [.int .i64 (x:Int)] .any K=K (dM m id (l.set i x)):=by
 rw[kE (JB h l) (r:=0) rfl (Nat.zero_le _) (by simp[dj];omega)];have e1:over (dj l) i [.int .i64 (x:Int)]=dj (l.set i x):=by unfold over dj;rw[←List.map_take,←List.map_drop,List.set_eq_take_append_cons_drop,if_pos hi];simp
 have e2:bh (List.replicate l.length cV.any) i [IV.int .i64 (x:Int)].length .any=List.replicate (l.set i x).length .any:=by rw[List.length_set];exact Cf hi
 rw[e1,e2];congr 1;simp[dM,az]
theorem rE:∀(a b:List UInt8),decide (uj a b<0)=aT a b
 |[],[]=>rfl
 |[],_::_=>rfl
 |_::_,[]=>rfl
 |a::x,b::y=>by
  rw[uj,aT];by_cases h1:a.toNat<b.toNat
  ·have e:Nat.blt a.toNat b.toNat=true:=by simpa using h1
   rw[e];simp[h1]
  ·have e:Nat.blt a.toNat b.toNat=false:=by rw[Bool.eq_false_iff];simpa using h1
   rw[e];by_cases h2:b.toNat<a.toNat
   ·have e2:Nat.blt b.toNat a.toNat=true:=by simpa using h2
    have e3:¬a.toNat=b.toNat:=by omega
    simp[e2,h1,e3]
   ·have e2:Nat.blt b.toNat a.toNat=false:=by rw[Bool.eq_false_iff];simpa using h2
    have e3:a.toNat=b.toNat:=by omega
    have e4:Nat.blt b.toNat b.toNat=false:=by rw[Bool.eq_false_iff];simp
    simp[e3,e4,rE x y]
theorem Rf (a b:List UInt8) (m:IM):cw (.f 170) [.str a,.str b] m=some (.int .i64 (uj a b),m):=by
 have h182:cw (.f 182) [.str a,.str b] m=some (.int .i64 (uj a b),m):=by unfold cw;rw[jv (p:=rU) rfl];rfl
 have h174:cw (.f 174) [.str a,.str b] m=some (.int .i64 (uj a b),m):=by have h1:=fun K2:IV→IM→Option (IV×IM)=>ae h182 (by simp[go_sem]) K2;apply G6;simp only[TK,h1,go_sem]
 have h1:=fun K2:IV→IM→Option (IV×IM)=>ae h174 (by simp[go_sem]) K2;apply G4;simp only[TI,h1,go_sem]
def fW (vb:Nat):IV:=.func 169 [] [.pB vb 0]
theorem eI {R:Type}(vb:Nat) (X:Option R):gg (fW vb) [] X=X:=rfl
theorem Jy {R:Type}{m:IM}{vb:Nat}{k:Int}{t:List UInt8}{V:IV}{ks:List (List UInt8)}(h:m.get vb=.cells [.int .i64 k,.str t,.sl (ks.map .str) ks.length,V] [.any,.any,.any,.any]) {a b:Nat}(ha:a<ks.length) (hb:b<ks.length) (K2:IV→IM→Option R) :
  jS cw (fW vb) [.int .i64 (a:Int),.int .i64 (b:Int)] [] m K2=K2 (.int .i64 (uj (ks.getD a []) (ks.getD b []))) m:=by
 have d1:ks.getD a []=ks[a]:=by simp[List.getD_eq_getElem?_getD,ha]
 have d2:ks.getD b []=ks[b]:=by simp[List.getD_eq_getElem?_getD,hb]
 rw[d1,d2];have r1:(ks.map IV.str)[a*1]?=some (.str ks[a]):=by simp[ha]
 have r2:(ks.map IV.str)[b*1]?=some (.str ks[b]):=by simp[hb]
 have h1:=fun K2:IV→IM→Option (IV×IM)=>ae (Rf ks[a] ks[b] m) (by simp[go_sem]) K2;have hF:cw (.f 169) [.int .i64 (a:Int),.int .i64 (b:Int),.pB vb 0] m=some (.int .i64 (uj ks[a] ks[b]),m):=by
  apply GZ;have hld:∀(K:IV→Option (IV×IM)),(gH m vb fun l0 _=>eV false l0 2 1 K)=K (.sl (ks.map .str) ks.length):=fun K=>by rw[f8 h];exact dD rfl K
  simp only[TH,hld,au (Ut ha),au (Ut hb),go_sem,dD r1,dD r2,h1]
 show an cw (.f 169) [.int .i64 (a:Int),.int .i64 (b:Int),.pB vb 0] [] m K2=_;exact ae hF (by simp[go_sem]) K2
def MO (ks:List (List UInt8)) (x:Nat):List Nat→List Nat→List Nat
 |[],P=>x::P
 |y::r,P=>if aT (ks.getD x []) (ks.getD y []) then MO ks x r (y::P) else r.reverse++y::x::P
theorem B9 (ks:List (List UInt8)) (x:Nat):∀r P:List Nat,(MO ks x r P).Perm (r.reverse++x::P)
 |[],P=>.refl _
 |y::r,P=>by
  unfold MO;split
  ·refine (B9 ks x r (y::P)).trans ?_;rw[List.reverse_cons,List.append_assoc];exact List.Perm.append_left _ (.swap y x P)
  ·rw[List.reverse_cons,List.append_assoc];exact .refl _
theorem vX (ks:List (List UInt8)) (x:Nat):∀r P:List Nat,(r.reverse++P).Pairwise (jk ks)→(∀z,z∈P→jk ks x z)→(MO ks x r P).Pairwise (jk ks)
 |[],P,h,hx=>List.pairwise_cons.2 ⟨hx,by simpa using h⟩
 |y::r,P,h,hx=>by
  rw[List.reverse_cons,List.append_assoc] at h;have h:(r.reverse++y::P).Pairwise (jk ks):=h;unfold MO;split
  ·rename_i g;refine vX ks x r (y::P) h (fun z hz=>?_);rcases List.mem_cons.1 hz with rfl | hz
   ·exact sW g
   ·exact hx z hz
  ·rename_i g;have g:jk ks y x:=by unfold jk;simpa using g
   obtain⟨h1,h2,h3⟩:=List.pairwise_append.1 h;obtain⟨h4,h5⟩:=List.pairwise_cons.1 h2;refine List.pairwise_append.2 ⟨h1,List.pairwise_cons.2 ⟨fun z hz=>?_,List.pairwise_cons.2 ⟨hx,h5⟩⟩,fun a ha b hb=>?_⟩
   ·rcases List.mem_cons.1 hz with rfl | hz
    ·exact g
    ·exact h4 z hz
   ·have hy:=h3 a ha y List.mem_cons_self;rcases List.mem_cons.1 hb with rfl | hb
    ·exact hy
    ·rcases List.mem_cons.1 hb with rfl | hb
     ·exact jG hy g
     ·exact h3 a ha b (List.mem_cons_of_mem _ hb)
theorem nF {α:Type}(B:List α) (x:α) (T:List α):(B++x::T)[B.length]?=some x:=by simp
theorem rZ {α:Type}(B:List α) (x y:α) (T:List α):(B++x::T).set B.length y=B++y::T:=by
 induction B with
 |nil=>rfl
 |cons b B ih=>simp[ih]
theorem wP {α:Type}(B:List α) (y x:α) (T:List α):(B++y::x::T)[B.length+1]?=some x:=by
 induction B with
 |nil=>rfl
 |cons b B ih=>simp
theorem xM {α:Type}(B:List α) (y x z:α) (T:List α):(B++y::x::T).set (B.length+1) z=B++y::z::T:=by
 induction B with
 |nil=>rfl
 |cons b B ih=>simp only[List.cons_append,List.length_cons,List.set_cons_succ,ih]
theorem jh {R:Type}{m:IM}{id:Nat}(h:id<m.size) {l:List Nat}{i x:Nat}(hi:l[i]?=some x) (K:IV→Option R):lD (dM m id l) false 1 (.pB id i) K=K (.int .i64 (x:Int)):=by obtain⟨h1,h2⟩:=List.getElem?_eq_some_iff.1 hi;rw[Uf h h1,h2]
theorem u6 {R:Type}(i o:Nat) (X:Option R):dk (.pB i o) X=X:=rfl
section
variable (m:IM) (id vb:Nat) (ks:List (List UInt8)) (k:Int) (t:List UInt8) (V:IV) (cd:id<m.size) (hne:vb≠id) (hvb:ks≠[]→m.get vb=.cells [.int .i64 k,.str t,.sl (ks.map .str) ks.length,V] [.any,.any,.any,.any])
include hne hvb
theorem Nn {R:Type}(l:List Nat) {a b:Nat}(ha:a<ks.length) (hb:b<ks.length) (K2:IV→IM→Option R) :
  jS cw (fW vb) [.int .i64 (a:Int),.int .i64 (b:Int)] [] (dM m id l) K2=K2 (.int .i64 (uj (ks.getD a []) (ks.getD b []))) (dM m id l) :=
 Jy (V:=V) (k:=k) (t:=t) (by rw[Ue hne];exact hvb (by rintro rfl;simp at ha)) ha hb K2
include cd
theorem TX (N:Nat) (hN:N≤1000000) (b i:Int) (A Q:List Nat) (x:Nat) (hx:x<ks.length):∀(r P:List Nat),(∀y,y∈r→y<ks.length)→A.length+r.length+1+P.length+Q.length=N →
  Af (.sB id 0 N 1) (A.length:Int) b (fW vb) i ((A.length+r.length:Nat):Int) (dM m id (A++(r.reverse++x::(P++Q))))=some (.exit 2,[.sB id 0 N 1,.int .i64 (A.length:Int),.int .i64 b,fW vb,.int .i64 i],[],dM m id (A++(MO ks x r P++Q)))
 |[],P,hr,hl=>by
  have c1:¬((A.length+([]:List Nat).length:Nat):Int)>(A.length:Int):=by simp
  rw[yK];simp only[zL,uF,go_sem,decide_eq_false c1,Bool.false_eq_true,if_false,if_true,MO,List.reverse_nil,List.nil_append,List.cons_append]
 |y::r,P,hr,hl=>by
  simp only[List.length_cons] at hl;have c1:((A.length+(y::r).length:Nat):Int)>(A.length:Int):=by simp only[List.length_cons];omega
  have hB:A++((y::r).reverse++x::(P++Q))=(A++r.reverse)++y::x::(P++Q):=by simp
  have hBl:(A++r.reverse).length=A.length+r.length:=by simp
  have hj:A.length+(y::r).length=(A++r.reverse).length+1:=by rw[hBl,List.length_cons];omega
  have hjn:(A++r.reverse).length+1<N:=by rw[hBl];omega
  have hy:=hr y List.mem_cons_self;have w1:IntKind.i64.wrap ((((A++r.reverse).length+1:Nat):Int)-1)=(((A++r.reverse).length:Nat):Int):=by rw[w64 (by omega) (by omega)];omega
  rw[hB,hj];rw[hj] at c1;have ih:=TX N hN b i A Q x hx r (y::P) (fun z hz=>hr z (List.mem_cons_of_mem _ hz)) (by simp only[List.length_cons];omega);have g1:((A++r.reverse)++y::x::(P++Q))[(A++r.reverse).length]?=some y:=nF _ _ _;have g2:((A++r.reverse)++y::x::(P++Q))[(A++r.reverse).length+1]?=some x:=wP _ _ _ _;have s1:((A++r.reverse)++y::x::(P++Q)).set ((A++r.reverse).length+1) y=(A++r.reverse)++y::y::(P++Q):=xM _ _ _ _ _;have s2:((A++r.reverse)++y::y::(P++Q)).set (A++r.reverse).length x=(A++r.reverse)++x::y::(P++Q):=rZ _ _ _ _;have hlen:((A++r.reverse)++y::x::(P++Q)).length=N:=by simp only[List.length_append,List.length_reverse,List.length_cons];omega
  have hlen2:((A++r.reverse)++y::y::(P++Q)).length=N:=by simp only[List.length_append,List.length_reverse,List.length_cons];omega
  have st1:=fun K:IM→Option (St⊕LR)=>tJ cd (l:=(A++r.reverse)++y::x::(P++Q)) (i:=(A++r.reverse).length+1) (by rw[hlen];exact hjn) y K;have st2:=fun K:IM→Option (St⊕LR)=>tJ cd (l:=(A++r.reverse)++y::y::(P++Q)) (i:=(A++r.reverse).length) (by rw[hlen2];omega) x K;rw[s1] at st1;rw[s2] at st2;have hcmp:=fun K2:IV→IM→Option LR=>Nn m id vb ks k t V hne hvb ((A++r.reverse)++y::x::(P++Q)) hx hy K2;have rd1:=fun K:IV→Option LR=>jh cd g1 K;have rd2:=fun K:IV→Option LR=>jh cd g2 K;have rd1':=fun K:IV→Option (St⊕LR)=>jh cd g1 K;have rd2':=fun K:IV→Option (St⊕LR)=>jh cd g2 K;have hres:A++(r.reverse++x::(y::P++Q))=(A++r.reverse)++x::y::(P++Q):=by simp
  rw[hres] at ih;have hbub:MO ks x (y::r) P=if aT (ks.getD x []) (ks.getD y []) then MO ks x r (y::P) else r.reverse++y::x::P:=rfl;rw[hbub];rw[←hBl] at ih;have hother:(A++r.reverse)++y::x::(P++Q)=A++((r.reverse++y::x::P)++Q):=by simp
  rw[yK];have ix1':=fun K:IV→Option LR=>au (kM (id:=id) (n:=N) (i:=(A++r.reverse).length+1) hjn) K;have ix0':=fun K:IV→Option LR=>au (kM (id:=id) (n:=N) (i:=(A++r.reverse).length) (by omega)) K;have jx1':=fun K:IV→Option (St⊕LR)=>au (kM (id:=id) (n:=N) (i:=(A++r.reverse).length+1) hjn) K;have jx0':=fun K:IV→Option (St⊕LR)=>au (kM (id:=id) (n:=N) (i:=(A++r.reverse).length) (by omega)) K;generalize hj1:(A++r.reverse).length+1=j1 at *;generalize (A++r.reverse).length=j0 at *;have hC:uF (.sB id 0 N 1) (A.length:Int) b (fW vb) i (j1:Int) (dM m id ((A++r.reverse)++y::x::(P++Q)))=some (.normal,[.sB id 0 N 1,.int .i64 (A.length:Int),.int .i64 b,fW vb,.int .i64 i,.int .i64 (j1:Int),.bool (aT (ks.getD x []) (ks.getD y []))],[],dM m id ((A++r.reverse)++y::x::(P++Q))):=by rw[←rE];simp only[uF,go_sem,decide_eq_true c1,if_true,ix1',rd2,w1,ix0',rd1,hcmp]
  cases hlt:aT (ks.getD x []) (ks.getD y []) with
  |true =>rw[hlt] at hC;simp only[if_true];rw[←ih];simp only[zL,hC,go_sem,if_true,w1,jx0',rd1',jx1',rd2',u6,st1,st2,eH,eI];rfl
  |false =>rw[hlt] at hC;simp only[zL,hC,go_sem,if_true,Bool.false_eq_true,if_false];rw[hother]
end
section
variable (m:IM) (id vb:Nat) (ks:List (List UInt8)) (k:Int) (t:List UInt8) (V:IV) (cd:id<m.size) (hne:vb≠id) (hvb:ks≠[]→m.get vb=.cells [.int .i64 k,.str t,.sl (ks.map .str) ks.length,V] [.any,.any,.any,.any])
include cd hne hvb
theorem OV (N:Nat) (hN:N≤1000000) (A Q:List Nat) (hQ:∀y,y∈A++Q→y<ks.length):∀(S P:List Nat),(∀y,y∈P++S→y<ks.length)→P.Pairwise (jk ks)→A.length+P.length+S.length+Q.length=N →
  ∃P',P'.Perm (P++S)∧P'.Pairwise (jk ks)∧vF (.sB id 0 N 1) (A.length:Int) ((A.length+P.length+S.length:Nat):Int) (fW vb) ((A.length+P.length:Nat):Int) (dM m id (A++(P++(S++Q))))=some (.exit 0,[],[],dM m id (A++(P'++Q)))
 |[],P,hy,hP,hl=>by
  refine⟨P,by simp,hP,?_⟩;have c1:¬((A.length+P.length:Nat):Int)<((A.length+P.length+([]:List Nat).length:Nat):Int):=by simp
  rw[sw];simp only[zM,go_sem,decide_eq_false c1,Bool.false_eq_true,if_false,List.nil_append]
 |x::S,P,hy,hP,hl=>by
  have c1:((A.length+P.length:Nat):Int)<((A.length+P.length+(x::S).length:Nat):Int):=by simp only[List.length_cons];omega
  have hx:x<ks.length:=hy x (by simp);have hw:IntKind.i64.wrap (((A.length+P.length:Nat):Int)+1)=((A.length+P.length+1:Nat):Int):=by simp only[List.length_cons] at hl;rw[w64 (by omega) (by omega)];omega
  have hin:=TX m id vb ks k t V cd hne hvb N hN ((A.length+P.length+(x::S).length:Nat):Int) ((A.length+P.length:Nat):Int) A (S++Q) x hx P.reverse [] (fun y h=>hy y (by simp at h;simp[h])) (by simp only[List.length_reverse,List.length_nil,List.length_append];simp only[List.length_cons] at hl;omega);rw[List.reverse_reverse,List.length_reverse,List.nil_append] at hin;have hbp:=B9 ks x P.reverse [];have hbs:=vX ks x P.reverse [] (by simpa using hP) (fun z hz=>by cases hz);rw[List.reverse_reverse] at hbp;generalize MO ks x P.reverse []=P1 at *;have hlen:P1.length=P.length+1:=by rw[hbp.length_eq];simp
  obtain⟨P',h1,h2,h3⟩:=OV N hN A Q hQ S P1 (fun y h=>by
   rcases List.mem_append.1 h with h | h
   ·have:=hbp.mem_iff.1 h;simp only[List.mem_append,List.mem_cons,List.not_mem_nil,or_false] at this;rcases this with h | rfl
    ·exact hy y (by simp[h])
    ·exact hx
   ·exact hy y (by simp[h])) hbs (by simp only[List.length_cons] at hl;omega)
  refine⟨P',h1.trans ?_,h2,?_⟩
  ·have:=hbp.append_right S;simpa using this
  ·rw[sw,←h3];have e1:A.length+P1.length=A.length+P.length+1:=by omega
   have e2:A.length+P1.length+S.length=A.length+P.length+(x::S).length:=by simp only[List.length_cons];omega
   rw[e2,e1];generalize A.length+P.length+1=i2 at *;simp only[zM,go_sem,decide_eq_true c1,if_true,eH,eI];have hin':Af (.sB id 0 N 1) (A.length:Int) ((A.length+P.length+(x::S).length:Nat):Int) (fW vb) ((A.length+P.length:Nat):Int) ((A.length+P.length:Nat):Int) (dM m id (A++(P++(x::S++Q))))=_:=hin;simp only[hin',go_sem,if_true,hw,eH,eI];rfl
theorem KI (N:Nat) (hN:N≤1000000) (A X Q:List Nat) (hQ:∀y,y∈A++(X++Q)→y<ks.length) (hl:A.length+X.length+Q.length=N) :
  ∃X',X'.Perm X∧X'.Pairwise (jk ks)∧cw (.f 180) [.sB id 0 N 1,.int .i64 (A.length:Int),.int .i64 ((A.length+X.length:Nat):Int),fW vb] (dM m id (A++(X++Q)))=some (.db [],dM m id (A++(X'++Q))):=by
 have hw:IntKind.i64.wrap ((A.length:Int)+1)=((A.length+1:Nat):Int):=by rw[w64 (by omega) (by omega)];omega
 cases X with
 |nil =>
  refine⟨[],.refl _,.nil,?_⟩;have c1:¬((A.length+1:Nat):Int)<((A.length+([]:List Nat).length:Nat):Int):=by simp;omega
  have hL:vF (.sB id 0 N 1) (A.length:Int) ((A.length+([]:List Nat).length:Nat):Int) (fW vb) ((A.length+1:Nat):Int) (dM m id (A++([]++Q)))=some (.exit 0,[],[],dM m id (A++([]++Q))):=by rw[sw];simp only[zM,go_sem,decide_eq_false c1,Bool.false_eq_true,if_false]
  apply yD;simp only[QL,eH,eI,hw,hL,go_sem,if_true]
 |cons x S =>
  obtain⟨P',h1,h2,h3⟩:=OV m id vb ks k t V cd hne hvb N hN A Q (fun y h=>hQ y (by simp at h ⊢;rcases h with h | h<;>simp[h])) S [x] (fun y h=>hQ y (by simp at h ⊢;rcases h with h | h<;>simp[h])) (by simp) (by simp only[List.length_cons,List.length_nil] at hl ⊢;omega);refine⟨P',by simpa using h1,h2,?_⟩;have h3':vF (.sB id 0 N 1) (A.length:Int) ((A.length+(x::S).length:Nat):Int) (fW vb) ((A.length+1:Nat):Int) (dM m id (A++(x::S++Q)))=some (.exit 0,[],[],dM m id (A++(P'++Q))):=by
   rw[←h3];have:A.length+[x].length+S.length=A.length+(x::S).length:=by simp only[List.length_cons,List.length_nil];omega
   rw[this];rfl
  apply yD;simp only[QL,eH,eI,hw,h3',go_sem,if_true];exact i7 m id _ _
end
section
variable (m:IM) (id:Nat) (cd:id<m.size)
include cd
theorem T1 (N:Nat) (hN:N≤1000000) (a b n:Nat) (Q:List Nat):∀(P R A M:List Nat) (i:Nat),P.length=R.length→a+i=A.length→b+i=A.length+P.length+M.length→n=i+P.length→A.length+P.length+M.length+R.length+Q.length=N →
  Ag (.sB id 0 N 1) a b n i (dM m id (A++(P++(M++(R++Q)))))=some (.exit 0,[],[],dM m id (A++(R++(M++(P++Q)))))
 |[],R,A,M,i,h1,h2,h3,h4,h5=>by
  have hR:R=[]:=List.length_eq_zero_iff.1 (by rw[←h1];rfl);subst hR;simp only[List.length_nil] at h4;have c1:¬(i:Int)<(n:Int):=by omega
  rw[yN];simp only[DJ,go_sem,decide_eq_false c1,Bool.false_eq_true,if_false]
 |p::P,[],A,M,i,h1,h2,h3,h4,h5=>by simp at h1
 |p::P,r::R,A,M,i,h1,h2,h3,h4,h5=>by
  simp only[List.length_cons] at h1 h3 h4 h5;have c1:(i:Int)<(n:Int):=by omega
  have wa:IntKind.i64.wrap ((a:Int)+(i:Int))=((A.length:Nat):Int):=by rw[w64 (by omega) (by omega)];omega
  have wb:IntKind.i64.wrap ((b:Int)+(i:Int))=((A.length+(P.length+1)+M.length:Nat):Int):=by rw[w64 (by omega) (by omega)];omega
  have wi:IntKind.i64.wrap ((i:Int)+1)=((i+1:Nat):Int):=by rw[w64 (by omega) (by omega)];omega
  have e0:A++((p::P)++(M++((r::R)++Q)))=A++p::(P++(M++r::(R++Q))):=by simp
  have e1:A++p::(P++(M++r::(R++Q)))=(A++p::(P++M))++r::(R++Q):=by simp
  have e2:A++r::(P++(M++r::(R++Q)))=(A++r::(P++M))++r::(R++Q):=by simp
  have l1:(A++p::(P++M)).length=A.length+(P.length+1)+M.length:=by simp only[List.length_append,List.length_cons];omega
  have l2:(A++r::(P++M)).length=A.length+(P.length+1)+M.length:=by simp only[List.length_append,List.length_cons];omega
  have g1:(A++p::(P++(M++r::(R++Q))))[A.length]?=some p:=nF _ _ _;have g2:(A++p::(P++(M++r::(R++Q))))[A.length+(P.length+1)+M.length]?=some r:=by rw[e1,←l1];exact nF _ _ _
  have s1:(A++p::(P++(M++r::(R++Q)))).set A.length r=A++r::(P++(M++r::(R++Q))):=rZ _ _ _ _;have s2:(A++r::(P++(M++r::(R++Q)))).set (A.length+(P.length+1)+M.length) p=(A++r::(P++M))++p::(R++Q):=by rw[e2,←l2];exact rZ _ _ _ _
  have ih:=T1 N hN a b n Q P R (A++[r]) (M++[p]) (i+1) (by omega) (by simp only[List.length_append,List.length_cons,List.length_nil];omega) (by simp only[List.length_append,List.length_cons,List.length_nil];omega) (by omega) (by simp only[List.length_append,List.length_cons,List.length_nil];omega);have e3:(A++[r])++(P++((M++[p])++(R++Q)))=(A++r::(P++M))++p::(R++Q):=by simp
  have e4:(A++[r])++(R++((M++[p])++(P++Q)))=A++((r::R)++(M++((p::P)++Q))):=by simp
  rw[e3,e4] at ih;have st1:=fun K:IM→Option (St⊕LR)=>tJ cd (l:=A++p::(P++(M++r::(R++Q)))) (i:=A.length) (by simp) r K;have st2:=fun K:IM→Option (St⊕LR)=>tJ cd (l:=A++r::(P++(M++r::(R++Q)))) (i:=A.length+(P.length+1)+M.length) (by simp only[List.length_append,List.length_cons];omega) p K;rw[s1] at st1;rw[s2] at st2;have rd1:=fun K:IV→Option (St⊕LR)=>jh cd g1 K;have rd2:=fun K:IV→Option (St⊕LR)=>jh cd g2 K;have x1:=fun K:IV→Option (St⊕LR)=>au (kM (id:=id) (n:=N) (i:=A.length) (by omega)) K;have x2:=fun K:IV→Option (St⊕LR)=>au (kM (id:=id) (n:=N) (i:=A.length+(P.length+1)+M.length) (by omega)) K;rw[yN,e0,←ih];generalize A.length+(P.length+1)+M.length=j2 at *;generalize A.length=j1 at *;generalize i+1=i2 at *;simp only[DJ,go_sem,decide_eq_true c1,if_true,wa,wb,x1,x2,rd1,rd2,u6,st1,st2,eH,wi];rfl
theorem Bp (N:Nat) (hN:N≤1000000) (A P M R Q:List Nat) (cmp:IV) (hcr:cmp.refs.isSome=true) (hcc:cmp.cells=[cmp]) (h1:P.length=R.length) (h5:A.length+P.length+M.length+R.length+Q.length=N) {a b n:Int}(ha:a=(A.length:Int)) (hb:b=((A.length+P.length+M.length:Nat):Int)) (hn:n=(P.length:Int)) :
  cw (.f 190) [.sB id 0 N 1,.int .i64 a,.int .i64 b,.int .i64 n,cmp] (dM m id (A++(P++(M++(R++Q)))))=some (.db [],dM m id (A++(R++(M++(P++Q))))):=by
 subst ha hb hn;have hL:=T1 m id cd N hN A.length (A.length+P.length+M.length) P.length Q P R A M 0 h1 rfl rfl (by omega) h5;have hL':Ag (.sB id 0 N 1) (A.length:Int) ((A.length+P.length+M.length:Nat):Int) (P.length:Int) 0 (dM m id (A++(P++(M++(R++Q)))))=_:=hL;apply G8;simp only[TM,eH,hL',go_sem,if_true];exact i7 m id _ _
end
theorem qp (vb:Nat):(fW vb).cells=[fW vb]:=rfl
theorem sJ (vb:Nat):(fW vb).refs.isSome=true:=rfl
section
variable (m:IM) (id vb:Nat) (cd:id<m.size)
include cd
theorem QN (N:Nat) (hN:N≤1000000):∀(f:Nat) (A X Y Q:List Nat),X.length+Y.length≤f→X≠[]→Y≠[]→A.length+X.length+Y.length+Q.length=N →
  ∃A' X' Y' Q',X'.length=Y'.length∧A'.length+X'.length=A.length+X.length∧A'++(Y'++(X'++Q'))=A++(Y++(X++Q))∧A'.length+X'.length+Y'.length+Q'.length=N ∧
   DV (.sB id 0 N 1) ((A.length+X.length:Nat):Int) (fW vb) (X.length:Int) (Y.length:Int) (dM m id (A++(X++(Y++Q))))=some (.exit 0,[.sB id 0 N 1,.int .i64 ((A.length+X.length:Nat):Int),fW vb,.int .i64 (X'.length:Int)],[],dM m id (A'++(X'++(Y'++Q'))))
 |0,A,X,Y,Q,hf,hX,hY,hl=>by
  have:X=[]:=List.length_eq_zero_iff.1 (by omega);exact (hX this).elim
 |f+1,A,X,Y,Q,hf,hX,hY,hl=>by
  have hX1:1≤X.length:=by cases X with
   |nil=>exact (hX rfl).elim
   |cons _ _=>simp
  have hY1:1≤Y.length:=by cases Y with
   |nil=>exact (hY rfl).elim
   |cons _ _=>simp
  by_cases heq:X.length=Y.length
  ·refine⟨A,X,Y,Q,heq,rfl,rfl,hl,?_⟩;have c1:((X.length:Int) != (Y.length:Int))=false:=by rw[heq];simp
   rw[sx];simp only[zN,go_sem,c1,Bool.false_eq_true,if_false]
  ·have c1:((X.length:Int) != (Y.length:Int))=true:=by simp;omega
   have wmi:IntKind.i64.wrap (((A.length+X.length:Nat):Int)-(X.length:Int))=(A.length:Int):=by rw[w64 (by omega) (by omega)];omega
   by_cases hgt:Y.length<X.length
   ·have c2:(X.length:Int)>(Y.length:Int):=by omega
    obtain⟨X1,X2,rfl,hX1l⟩:∃X1 X2,X=X1++X2∧X1.length=Y.length:=⟨X.take Y.length,X.drop Y.length,(List.take_append_drop _ _).symm,by rw[List.length_take];omega⟩
    have hX2:X2≠[]:=by rintro rfl;simp only[List.length_append,List.length_nil] at hgt;omega
    simp only[List.length_append] at hgt hl hf;have hsw:=Bp m id cd N hN A X1 X2 Y Q (fW vb) (sJ vb) (qp vb) hX1l (by omega) (a:=(A.length:Int)) (b:=((A.length+(X1++X2).length:Nat):Int)) (n:=(Y.length:Int)) rfl (by simp only[List.length_append];omega) (by omega);have h1:=fun K2:IV→IM→Option (St⊕LR)=>ae hsw (by rfl) K2;obtain⟨A',X',Y',Q',q1,q2,q3,q4,q5⟩:=QN N hN f (A++Y) X2 X1 Q (by omega) hX2 (by rintro rfl;simp only[List.length_nil] at hX1l;omega) (by simp only[List.length_append];omega);have wij:IntKind.i64.wrap (((X1++X2).length:Int)-(Y.length:Int))=(X2.length:Int):=by rw[w64 (by simp only[List.length_append];omega) (by simp only[List.length_append];omega)];simp only[List.length_append];omega
    have hlm:(A++Y).length+X2.length=A.length+(X1++X2).length:=by simp only[List.length_append];omega
    refine⟨A',X',Y',Q',q1,by omega,by rw[q3];simp,q4,?_⟩;rw[hlm,hX1l] at q5;have e1:A++((X1++X2)++(Y++Q))=A++(X1++(X2++(Y++Q))):=by simp
    have e2:(A++Y)++(X2++(X1++Q))=A++(Y++(X2++(X1++Q))):=by simp
    rw[e2] at q5;rw[sx,e1,←q5];simp only[zN,go_sem,c1,if_true,decide_eq_true c2,wmi,h1,eH,eI,wij];rfl
   ·have c2:¬(X.length:Int)>(Y.length:Int):=by omega
    obtain⟨Y1,Y2,rfl,hY2l⟩:∃Y1 Y2,Y=Y1++Y2∧Y2.length=X.length:=⟨Y.take (Y.length-X.length),Y.drop (Y.length-X.length),(List.take_append_drop _ _).symm,by rw[List.length_drop];omega⟩
    have hY1:Y1≠[]:=by rintro rfl;simp only[List.length_append,List.length_nil] at heq;omega
    simp only[List.length_append] at hgt hl hf;have hsw:=Bp m id cd N hN A X Y1 Y2 Q (fW vb) (sJ vb) (qp vb) hY2l.symm (by omega) (a:=(A.length:Int)) (b:=((A.length+X.length+Y1.length:Nat):Int)) (n:=(X.length:Int)) rfl rfl rfl;have h1:=fun K2:IV→IM→Option (St⊕LR)=>ae hsw (by rfl) K2;obtain⟨A',X',Y',Q',q1,q2,q3,q4,q5⟩:=QN N hN f A Y2 Y1 (X++Q) (by omega) (by rintro rfl;simp only[List.length_nil] at hY2l;omega) hY1 (by simp only[List.length_append];omega);have wji:IntKind.i64.wrap (((Y1++Y2).length:Int)-(X.length:Int))=(Y1.length:Int):=by rw[w64 (by simp only[List.length_append];omega) (by simp only[List.length_append];omega)];simp only[List.length_append];omega
    have wmj:IntKind.i64.wrap (IntKind.i64.wrap (((A.length+X.length:Nat):Int)+((Y1++Y2).length:Int))-(X.length:Int))=((A.length+X.length+Y1.length:Nat):Int):=by rw[w64 (x:=((A.length+X.length:Nat):Int)+((Y1++Y2).length:Int)) (by simp only[List.length_append];omega) (by simp only[List.length_append];omega),w64 (by simp only[List.length_append];omega) (by simp only[List.length_append];omega)];simp only[List.length_append];omega
    refine⟨A',X',Y',Q',q1,by omega,by rw[q3];simp,q4,?_⟩;rw[hY2l] at q5;have e1:A++(X++((Y1++Y2)++Q))=A++(X++(Y1++(Y2++Q))):=by simp
    rw[sx,e1,←q5];simp only[zN,go_sem,c1,if_true,decide_eq_false c2,Bool.false_eq_true,if_false,wmi,wmj,h1,eH,eI,wji];rfl
theorem Sp (N:Nat) (hN:N≤1000000) (A X Y Q:List Nat) (hX:X≠[]) (hY:Y≠[]) (hl:A.length+X.length+Y.length+Q.length=N) :
  cw (.f 187) [.sB id 0 N 1,.int .i64 (A.length:Int),.int .i64 ((A.length+X.length:Nat):Int),.int .i64 ((A.length+X.length+Y.length:Nat):Int),fW vb] (dM m id (A++(X++(Y++Q))))=some (.db [],dM m id (A++(Y++(X++Q)))):=by
 obtain⟨A',X',Y',Q',q1,q2,q3,q4,q5⟩:=QN m id vb cd N hN (X.length+Y.length) A X Y Q (Nat.le_refl _) hX hY hl;have w1:IntKind.i64.wrap (((A.length+X.length:Nat):Int)-(A.length:Int))=(X.length:Int):=by rw[w64 (by omega) (by omega)];omega
 have w2:IntKind.i64.wrap (((A.length+X.length+Y.length:Nat):Int)-((A.length+X.length:Nat):Int))=(Y.length:Int):=by rw[w64 (by omega) (by omega)];omega
 have w3:IntKind.i64.wrap (((A.length+X.length:Nat):Int)-(X'.length:Int))=(A'.length:Int):=by rw[w64 (by omega) (by omega)];omega
 have hsw:=Bp m id cd N hN A' X' [] Y' Q' (fW vb) (sJ vb) (qp vb) q1 (by simp only[List.length_nil];omega) (a:=(A'.length:Int)) (b:=((A.length+X.length:Nat):Int)) (n:=(X'.length:Int)) rfl (by simp only[List.length_nil];omega) rfl;rw[List.nil_append,List.nil_append,q3] at hsw;have h1:=fun K2:IV→IM→Option (IV×IM)=>ae hsw (by rfl) K2;apply G7;simp only[TL,eH,eI,w1,w2,q5,go_sem,if_true,w3,h1];exact i7 m id _ _
end
theorem uS (i j:Nat) (h:i+j≤1000000000):IntKind.i64.wrap (Int.fdiv (IntKind.u64.wrap (IntKind.i64.wrap ((i:Int)+(j:Int)))) (2^Nat.min (Int.toNat 1) 64))=(((i+j)/2:Nat):Int):=by
 have e1:IntKind.i64.wrap ((i:Int)+(j:Int))=((i+j:Nat):Int):=by rw[w64 (by omega) (by omega)];omega
 have e2:IntKind.u64.wrap ((i+j:Nat):Int)=((i+j:Nat):Int):=by unfold IntKind.wrap;simp[IntKind.bits,IntKind.signed];omega
 have e3:Int.fdiv ((i+j:Nat):Int) (2^Nat.min (Int.toNat 1) 64)=(((i+j)/2:Nat):Int):=by
  have:((2:Int)^Nat.min (Int.toNat 1) 64)=2:=by decide
  rw[this,Int.fdiv_eq_ediv_of_nonneg _ (by omega)];omega
 rw[e1,e2,e3,w64 (by omega) (by omega)]
section
variable (m:IM) (id vb:Nat) (ks:List (List UInt8)) (k:Int) (t:List UInt8) (V:IV) (cd:id<m.size) (hne:vb≠id) (hvb:ks≠[]→m.get vb=.cells [.int .i64 k,.str t,.sl (ks.map .str) ks.length,V] [.any,.any,.any,.any])
include cd hne hvb
theorem TY (N:Nat) (hN:N≤1000000) (l:List Nat) (hl:l.length=N) (hk:∀y,y∈l→y<ks.length) (a:Nat) (ha:a<N):∀(f i j:Nat),j-i≤f→i≤j→j≤N →
  ∃p,i≤p∧p≤j∧(p=i∨aT (ks.getD (l.getD (p-1) 0) []) (ks.getD (l.getD a 0) [])=true)∧(p=j∨aT (ks.getD (l.getD p 0) []) (ks.getD (l.getD a 0) [])=false) ∧
   DQ (.sB id 0 N 1) a (fW vb) i j (dM m id l)=some (.exit 0,[.sB id 0 N 1,.int .i64 (a:Int),.int .i64 (p:Int)],[],dM m id l):=by
 intro f
 induction f with
 |zero =>
  intro i j hf hij hj;have c1:¬(i:Int)<(j:Int):=by omega
  refine⟨i,Nat.le_refl _,hij,.inl rfl,.inl (by omega),?_⟩;rw[pb];simp only[ve,go_sem,decide_eq_false c1,Bool.false_eq_true,if_false]
 |succ f ih =>
  intro i j hf hij hj;by_cases c:i<j
  ·have c1:(i:Int)<(j:Int):=by omega
   have hh:=uS i j (by omega);obtain⟨h,hhd⟩:∃h,h=(i+j)/2:=⟨_,rfl⟩
   rw[←hhd] at hh;have hb1:i≤h∧h<j:=by omega
   have hhN:h<l.length:=by omega
   have haN:a<l.length:=by omega
   have g1:l[h]?=some (l.getD h 0):=by simp[List.getD_eq_getElem?_getD,hhN]
   have g2:l[a]?=some (l.getD a 0):=by simp[List.getD_eq_getElem?_getD,haN]
   have k1:l.getD h 0<ks.length:=hk _ (List.mem_of_getElem? g1);have k2:l.getD a 0<ks.length:=hk _ (List.mem_of_getElem? g2);have hcmp:=fun K2:IV→IM→Option (St⊕LR)=>Nn m id vb ks k t V hne hvb l k1 k2 K2;have rd1:=fun K:IV→Option (St⊕LR)=>jh cd g1 K;have rd2:=fun K:IV→Option (St⊕LR)=>jh cd g2 K;have x1:=fun K:IV→Option (St⊕LR)=>au (kM (id:=id) (n:=N) (i:=h) (by omega)) K;have x2:=fun K:IV→Option (St⊕LR)=>au (kM (id:=id) (n:=N) (i:=a) ha) K;have hw:IntKind.i64.wrap ((h:Int)+1)=((h+1:Nat):Int):=by rw[w64 (by omega) (by omega)];omega
   have hcb:=rE (ks.getD (l.getD h 0) []) (ks.getD (l.getD a 0) [])
   cases hlt:aT (ks.getD (l.getD h 0) []) (ks.getD (l.getD a 0) []) with
   |true =>
    rw[hlt] at hcb;obtain⟨p,p1,p2,p3,p4,p5⟩:=ih (h+1) j (by omega) (by omega) hj;refine⟨p,by omega,p2,?_,p4,?_⟩
    ·rcases p3 with q | q
     ·right;rw[q,Nat.add_sub_cancel];exact hlt
     ·exact .inr q
    ·rw[pb,←p5];generalize h+1=h1 at *;simp only[ve,go_sem,decide_eq_true c1,if_true,hh,x1,rd1,x2,rd2,hcmp,hcb,eH,eI,hw];rfl
   |false =>
    rw[hlt] at hcb;obtain⟨p,p1,p2,p3,p4,p5⟩:=ih i h (by omega) (by omega) (by omega);refine⟨p,p1,by omega,p3,?_,?_⟩
    ·rcases p4 with q | q
     ·right;rw[q];exact hlt
     ·exact .inr q
    ·rw[pb,←p5];simp only[ve,go_sem,decide_eq_true c1,if_true,hh,x1,rd1,x2,rd2,hcmp,hcb,Bool.false_eq_true,if_false,eH,eI];rfl
  ·have c1:¬(i:Int)<(j:Int):=by omega
   refine⟨i,Nat.le_refl _,hij,.inl rfl,.inl (by omega),?_⟩;rw[pb];simp only[ve,go_sem,decide_eq_false c1,Bool.false_eq_true,if_false]
theorem TZ (N:Nat) (hN:N≤1000000) (l:List Nat) (hl:l.length=N) (hk:∀y,y∈l→y<ks.length) (a:Nat) (ha:a<N):∀(f i j:Nat),j-i≤f→i≤j→j≤N →
  ∃p,i≤p∧p≤j∧(p=i∨aT (ks.getD (l.getD a 0) []) (ks.getD (l.getD (p-1) 0) [])=false)∧(p=j∨aT (ks.getD (l.getD a 0) []) (ks.getD (l.getD p 0) [])=true) ∧
   DS (.sB id 0 N 1) a (fW vb) i j (dM m id l)=some (.exit 4,[.sB id 0 N 1,.int .i64 (a:Int),.int .i64 (p:Int)],[],dM m id l):=by
 intro f
 induction f with
 |zero =>
  intro i j hf hij hj;have c1:¬(i:Int)<(j:Int):=by omega
  refine⟨i,Nat.le_refl _,hij,.inl rfl,.inl (by omega),?_⟩;rw[pc];simp only[vf,go_sem,decide_eq_false c1,Bool.false_eq_true,if_false]
 |succ f ih =>
  intro i j hf hij hj;by_cases c:i<j
  ·have c1:(i:Int)<(j:Int):=by omega
   have hh:=uS i j (by omega);obtain⟨h,hhd⟩:∃h,h=(i+j)/2:=⟨_,rfl⟩
   rw[←hhd] at hh;have hb1:i≤h∧h<j:=by omega
   have hhN:h<l.length:=by omega
   have haN:a<l.length:=by omega
   have g1:l[h]?=some (l.getD h 0):=by simp[List.getD_eq_getElem?_getD,hhN]
   have g2:l[a]?=some (l.getD a 0):=by simp[List.getD_eq_getElem?_getD,haN]
   have k1:l.getD h 0<ks.length:=hk _ (List.mem_of_getElem? g1);have k2:l.getD a 0<ks.length:=hk _ (List.mem_of_getElem? g2);have hcmp:=fun K2:IV→IM→Option (St⊕LR)=>Nn m id vb ks k t V hne hvb l k2 k1 K2;have rd1:=fun K:IV→Option (St⊕LR)=>jh cd g1 K;have rd2:=fun K:IV→Option (St⊕LR)=>jh cd g2 K;have x1:=fun K:IV→Option (St⊕LR)=>au (kM (id:=id) (n:=N) (i:=h) (by omega)) K;have x2:=fun K:IV→Option (St⊕LR)=>au (kM (id:=id) (n:=N) (i:=a) ha) K;have hw:IntKind.i64.wrap ((h:Int)+1)=((h+1:Nat):Int):=by rw[w64 (by omega) (by omega)];omega
   have hcb:=rE (ks.getD (l.getD a 0) []) (ks.getD (l.getD h 0) [])
   cases hlt:aT (ks.getD (l.getD a 0) []) (ks.getD (l.getD h 0) []) with
   |false =>
    rw[hlt] at hcb;obtain⟨p,p1,p2,p3,p4,p5⟩:=ih (h+1) j (by omega) (by omega) hj;refine⟨p,by omega,p2,?_,p4,?_⟩
    ·rcases p3 with q | q
     ·right;rw[q,Nat.add_sub_cancel];exact hlt
     ·exact .inr q
    ·rw[pc,←p5];generalize h+1=h1 at *;simp only[vf,go_sem,decide_eq_true c1,if_true,hh,x1,rd1,x2,rd2,hcmp,hcb,Bool.not_false,eH,eI,hw];rfl
   |true =>
    rw[hlt] at hcb;obtain⟨p,p1,p2,p3,p4,p5⟩:=ih i h (by omega) (by omega) (by omega);refine⟨p,p1,by omega,p3,?_,?_⟩
    ·rcases p4 with q | q
     ·right;rw[q];exact hlt
     ·exact .inr q
    ·rw[pc,←p5];simp only[vf,go_sem,decide_eq_true c1,if_true,hh,x1,rd1,x2,rd2,hcmp,hcb,Bool.not_true,Bool.false_eq_true,if_false,eH,eI];rfl
  ·have c1:¬(i:Int)<(j:Int):=by omega
   refine⟨i,Nat.le_refl _,hij,.inl rfl,.inl (by omega),?_⟩;rw[pc];simp only[vf,go_sem,decide_eq_false c1,Bool.false_eq_true,if_false]
theorem T0 (N:Nat) (hN:N≤1000000) (l:List Nat) (hl:l.length=N) (hk:∀y,y∈l→y<ks.length) (a n b mid n1:Int) (q:Nat):∀(f i j:Nat),j-i≤f→i≤j→j≤N→(i<j→j≤q+1)→(∀c,i≤c→c<j→q-c<N)→q≤2000000 →
  ∃p,i≤p∧p≤j∧(p=i∨aT (ks.getD (l.getD (q-(p-1)) 0) []) (ks.getD (l.getD (p-1) 0) [])=false)∧(p=j∨aT (ks.getD (l.getD (q-p) 0) []) (ks.getD (l.getD p 0) [])=true) ∧
   DU (.sB id 0 N 1) a n b (fW vb) mid n1 i j q (dM m id l)=some (.exit 8,[.sB id 0 N 1,.int .i64 a,.int .i64 n,.int .i64 b,fW vb,.int .i64 mid,.int .i64 n1,.int .i64 (p:Int)],[],dM m id l):=by
 intro f
 induction f with
 |zero =>
  intro i j hf hij hj _ _ _;have c1:¬(i:Int)<(j:Int):=by omega
  refine⟨i,Nat.le_refl _,hij,.inl rfl,.inl (by omega),?_⟩;rw[pd];simp only[vg,go_sem,decide_eq_false c1,Bool.false_eq_true,if_false]
 |succ f ih =>
  intro i j hf hij hj hjq hqN hqb;by_cases c:i<j
  ·have c1:(i:Int)<(j:Int):=by omega
   have hh:=uS i j (by omega);obtain⟨h,hhd⟩:∃h,h=(i+j)/2:=⟨_,rfl⟩
   rw[←hhd] at hh;have hb1:i≤h∧h<j:=by omega
   have hjq':=hjq c;have hqh:=hqN h hb1.1 hb1.2;have wq:IntKind.i64.wrap ((q:Int)-(h:Int))=((q-h:Nat):Int):=by rw[w64 (by omega) (by omega)];omega
   have g1:l[h]?=some (l.getD h 0):=by simp[List.getD_eq_getElem?_getD,show h<l.length by omega]
   have g2:l[q-h]?=some (l.getD (q-h) 0):=by simp[List.getD_eq_getElem?_getD,show q-h<l.length by omega]
   have k1:l.getD h 0<ks.length:=hk _ (List.mem_of_getElem? g1);have k2:l.getD (q-h) 0<ks.length:=hk _ (List.mem_of_getElem? g2);have hcmp:=fun K2:IV→IM→Option (St⊕LR)=>Nn m id vb ks k t V hne hvb l k2 k1 K2;have rd1:=fun K:IV→Option (St⊕LR)=>jh cd g1 K;have rd2:=fun K:IV→Option (St⊕LR)=>jh cd g2 K;have x1:=fun K:IV→Option (St⊕LR)=>au (kM (id:=id) (n:=N) (i:=h) (by omega)) K;have x2:=fun K:IV→Option (St⊕LR)=>au (kM (id:=id) (n:=N) (i:=q-h) hqh) K;have hw:IntKind.i64.wrap ((h:Int)+1)=((h+1:Nat):Int):=by rw[w64 (by omega) (by omega)];omega
   have hcb:=rE (ks.getD (l.getD (q-h) 0) []) (ks.getD (l.getD h 0) [])
   cases hlt:aT (ks.getD (l.getD (q-h) 0) []) (ks.getD (l.getD h 0) []) with
   |false =>
    rw[hlt] at hcb;obtain⟨p,p1,p2,p3,p4,p5⟩:=ih (h+1) j (by omega) (by omega) hj (fun _=>hjq') (fun c g1 g2=>hqN c (by omega) g2) hqb;refine⟨p,by omega,p2,?_,p4,?_⟩
    ·rcases p3 with g | g
     ·right;rw[g,Nat.add_sub_cancel];exact hlt
     ·exact .inr g
    ·rw[pd,←p5];generalize h+1=h1 at *;simp only[vg,go_sem,decide_eq_true c1,if_true,hh,wq,x1,rd1,x2,rd2,hcmp,hcb,Bool.not_false,eH,eI,hw];rfl
   |true =>
    rw[hlt] at hcb;obtain⟨p,p1,p2,p3,p4,p5⟩:=ih i h (by omega) (by omega) (by omega) (fun _=>by omega) (fun c g1 g2=>hqN c g1 (by omega)) hqb;refine⟨p,p1,by omega,p3,?_,?_⟩
    ·rcases p4 with g | g
     ·right;rw[g];exact hlt
     ·exact .inr g
    ·rw[pd,←p5];simp only[vg,go_sem,decide_eq_true c1,if_true,hh,wq,x1,rd1,x2,rd2,hcmp,hcb,Bool.not_true,Bool.false_eq_true,if_false,eH,eI];rfl
  ·have c1:¬(i:Int)<(j:Int):=by omega
   refine⟨i,Nat.le_refl _,hij,.inl rfl,.inl (by omega),?_⟩;rw[pd];simp only[vg,go_sem,decide_eq_false c1,Bool.false_eq_true,if_false]
end
section
variable (m:IM) (id:Nat) (cd:id<m.size)
include cd
theorem OW (N:Nat) (hN:N≤1000000) (x:Nat) (T:List Nat):∀(Y B:List Nat),B.length+1+Y.length+T.length=N →
  DR (.sB id 0 N 1) ((B.length+Y.length+1:Nat):Int) (B.length:Int) (dM m id (B++x::(Y++T)))=some (.exit 2,[],[],dM m id (B++(Y++x::T)))
 |[],B,hl=>by
  have w0:IntKind.i64.wrap (((B.length+([]:List Nat).length+1:Nat):Int)-1)=(B.length:Int):=by simp only[List.length_nil];rw[w64 (by omega) (by omega)];omega
  have c1:¬(B.length:Int)<(B.length:Int):=by omega
  rw[yL];simp only[DH,go_sem,w0,decide_eq_false c1,Bool.false_eq_true,if_false,List.nil_append]
 |y::Y,B,hl=>by
  simp only[List.length_cons] at hl;have w0:IntKind.i64.wrap (((B.length+(y::Y).length+1:Nat):Int)-1)=((B.length+(Y.length+1):Nat):Int):=by simp only[List.length_cons];rw[w64 (by omega) (by omega)];omega
  have c1:(B.length:Int)<((B.length+(Y.length+1):Nat):Int):=by omega
  have w1:IntKind.i64.wrap ((B.length:Int)+1)=((B.length+1:Nat):Int):=by rw[w64 (by omega) (by omega)];omega
  have g1:(B++x::(y::Y++T))[B.length]?=some x:=nF _ _ _;have g2:(B++x::(y::Y++T))[B.length+1]?=some y:=wP _ _ _ _;have s1:(B++x::(y::Y++T)).set B.length y=B++y::(y::Y++T):=rZ _ _ _ _;have s2:(B++y::(y::Y++T)).set (B.length+1) x=B++y::x::(Y++T):=xM _ _ _ _ _;have st1:=fun K:IM→Option (St⊕LR)=>tJ cd (l:=B++x::(y::Y++T)) (i:=B.length) (by simp) y K;have st2:=fun K:IM→Option (St⊕LR)=>tJ cd (l:=B++y::(y::Y++T)) (i:=B.length+1) (by simp) x K;rw[s1] at st1;rw[s2] at st2;have rd1:=fun K:IV→Option (St⊕LR)=>jh cd g1 K;have rd2:=fun K:IV→Option (St⊕LR)=>jh cd g2 K;have x1:=fun K:IV→Option (St⊕LR)=>au (kM (id:=id) (n:=N) (i:=B.length) (by omega)) K;have x2:=fun K:IV→Option (St⊕LR)=>au (kM (id:=id) (n:=N) (i:=B.length+1) (by omega)) K;have ih:=OW N hN x T Y (B++[y]) (by simp only[List.length_append,List.length_cons,List.length_nil];omega);have e1:(B++[y])++x::(Y++T)=B++y::x::(Y++T):=by simp
  have e2:(B++[y])++(Y++x::T)=B++(y::Y++x::T):=by simp
  have e3:(B++[y]).length=B.length+1:=by simp
  rw[e1,e2,e3] at ih;have e4:B.length+1+Y.length+1=B.length+(y::Y).length+1:=by simp only[List.length_cons];omega
  rw[e4] at ih;rw[yL,←ih];generalize B.length+1=b1 at *;simp only[DH,go_sem,w0,decide_eq_true c1,if_true,w1,x1,x2,rd1,rd2,u6,st1,st2,eH];rfl
theorem OX (N:Nat) (hN:N≤1000000) (y:Nat) (A:List Nat):∀(r T:List Nat),A.length+r.length+1+T.length=N →
  DT (.sB id 0 N 1) (A.length:Int) ((A.length+r.length:Nat):Int) (dM m id (A++(r.reverse++y::T)))=some (.exit 6,[],[],dM m id (A++y::(r.reverse++T)))
 |[],T,hl=>by
  have c1:¬((A.length+([]:List Nat).length:Nat):Int)>(A.length:Int):=by simp
  rw[yM];simp only[DI,go_sem,decide_eq_false c1,Bool.false_eq_true,if_false,List.reverse_nil,List.nil_append]
 |x::r,T,hl=>by
  simp only[List.length_cons] at hl;have c1:((A.length+(x::r).length:Nat):Int)>(A.length:Int):=by simp only[List.length_cons];omega
  have hBl:(A++r.reverse).length=A.length+r.length:=by simp
  have hj:A.length+(x::r).length=(A++r.reverse).length+1:=by rw[hBl,List.length_cons];omega
  have hB:A++((x::r).reverse++y::T)=(A++r.reverse)++x::y::T:=by simp
  have w1:IntKind.i64.wrap ((((A++r.reverse).length+1:Nat):Int)-1)=(((A++r.reverse).length:Nat):Int):=by rw[w64 (by omega) (by omega)];omega
  rw[hj] at c1;have g1:((A++r.reverse)++x::y::T)[(A++r.reverse).length]?=some x:=nF _ _ _;have g2:((A++r.reverse)++x::y::T)[(A++r.reverse).length+1]?=some y:=wP _ _ _ _;have s1:((A++r.reverse)++x::y::T).set ((A++r.reverse).length+1) x=(A++r.reverse)++x::x::T:=xM _ _ _ _ _;have s2:((A++r.reverse)++x::x::T).set (A++r.reverse).length y=(A++r.reverse)++y::x::T:=rZ _ _ _ _;have st1:=fun K:IM→Option (St⊕LR)=>tJ cd (l:=(A++r.reverse)++x::y::T) (i:=(A++r.reverse).length+1) (by simp;omega) x K;have st2:=fun K:IM→Option (St⊕LR)=>tJ cd (l:=(A++r.reverse)++x::x::T) (i:=(A++r.reverse).length) (by simp) y K;rw[s1] at st1;rw[s2] at st2;have rd1:=fun K:IV→Option (St⊕LR)=>jh cd g1 K;have rd2:=fun K:IV→Option (St⊕LR)=>jh cd g2 K;have x1:=fun K:IV→Option (St⊕LR)=>au (kM (id:=id) (n:=N) (i:=(A++r.reverse).length) (by omega)) K
  have x2:=fun K:IV→Option (St⊕LR)=>au (kM (id:=id) (n:=N) (i:=(A++r.reverse).length+1) (by omega)) K;have ih:=OX N hN y A r (x::T) (by simp only[List.length_cons];omega);have e1:A++(r.reverse++y::x::T)=(A++r.reverse)++y::x::T:=by simp
  have e2:A++y::(r.reverse++x::T)=A++y::((x::r).reverse++T):=by simp
  rw[e1,e2,←hBl] at ih;rw[hB,hj,yM,←ih];generalize hj1:(A++r.reverse).length+1=j1 at *;generalize (A++r.reverse).length=j0 at *;simp only[DI,go_sem,decide_eq_true c1,if_true,w1,x1,x2,rd1,rd2,u6,st1,st2,eH];rfl
end
theorem Cx (ks:List (List UInt8)) (a:Nat):jk ks a a:=Je _
def Ci (ks:List (List UInt8)) (X Y:List Nat):Prop:=∀z w,X[X.length-1]?=some z→Y[0]?=some w→jk ks z w
theorem uW {ks:List (List UInt8)}:∀{L:List Nat},L.Pairwise (jk ks)→∀z,L[L.length-1]?=some z→∀y,y∈L→jk ks y z
 |[],_,_,_,_,hy=>by cases hy
 |[x],_,z,hz,y,hy=>by
  simp only[List.mem_cons,List.not_mem_nil,or_false] at hy;subst hy;simp only[List.length_cons,List.length_nil,Nat.zero_add,Nat.sub_self,List.getElem?_cons_zero,Option.some.injEq] at hz;subst hz;exact Cx ks _
 |x::x2::r,h,z,hz,y,hy=>by
  obtain⟨h1,h2⟩:=List.pairwise_cons.1 h;have hz':(x2::r)[(x2::r).length-1]?=some z:=by simpa using hz
  rcases List.mem_cons.1 hy with rfl | hy
  ·exact h1 z (List.mem_of_getElem? hz')
  ·exact uW h2 z hz' y hy
theorem oy {ks:List (List UInt8)}{L:List Nat}(h:L.Pairwise (jk ks)) (z:Nat) (hz:L[0]?=some z) (y:Nat) (hy:y∈L):jk ks z y:=by
 cases L with
 |nil=>cases hy
 |cons x r =>
  simp only[List.getElem?_cons_zero,Option.some.injEq] at hz;subst hz;rcases List.mem_cons.1 hy with rfl | hy
  ·exact Cx ks _
  ·exact (List.pairwise_cons.1 h).1 y hy
theorem F0 {ks:List (List UInt8)}{X Y:List Nat}(hX:X.Pairwise (jk ks)) (hY:Y.Pairwise (jk ks)) (h:Ci ks X Y):∀x,x∈X→∀y,y∈Y→jk ks x y:=by
 intro x hx y hy;have h1:X.length-1<X.length:=by
  cases X with
  |nil=>cases hx
  |cons _ _=>simp
 have h2:0<Y.length:=by
  cases Y with
  |nil=>cases hy
  |cons _ _=>simp
 exact jG (uW hX _ (List.getElem?_eq_getElem h1) x hx) (jG (h _ _ (List.getElem?_eq_getElem h1) (List.getElem?_eq_getElem h2)) (oy hY _ (List.getElem?_eq_getElem h2) y hy))
theorem xN {ks:List (List UInt8)}{X:List Nat}(h:X.Pairwise (jk ks)) (n:Nat):(X.take n).Pairwise (jk ks)∧(X.drop n).Pairwise (jk ks)∧∀x,x∈X.take n→∀y,y∈X.drop n→jk ks x y:=by rw[←List.take_append_drop n X] at h;exact List.pairwise_append.1 h
theorem CI {ks:List (List UInt8)}{X1 X2 Y1 Y2 Z1 Z2:List Nat}(hX:(X1++X2).Pairwise (jk ks)) (hY:(Y1++Y2).Pairwise (jk ks)) (h1:Ci ks X1 Y2) (h2:Ci ks Y1 X2) (hZ1:Z1.Perm (X1++Y1)) (hZ2:Z2.Perm (X2++Y2)) (s1:Z1.Pairwise (jk ks)) (s2:Z2.Pairwise (jk ks)) :
  (Z1++Z2).Perm ((X1++X2)++(Y1++Y2))∧(Z1++Z2).Pairwise (jk ks):=by
 obtain⟨a1,a2,a3⟩:=List.pairwise_append.1 hX;obtain⟨b1,b2,b3⟩:=List.pairwise_append.1 hY;refine⟨?_,List.pairwise_append.2 ⟨s1,s2,fun x hx y hy=>?_⟩⟩
 ·refine (hZ1.append hZ2).trans ?_;rw[List.append_assoc,List.append_assoc];refine List.Perm.append_left _ ?_;rw[←List.append_assoc,←List.append_assoc];exact List.Perm.append_right _ List.perm_append_comm
 ·have hx:=hZ1.mem_iff.1 hx;have hy:=hZ2.mem_iff.1 hy;rcases List.mem_append.1 hx with hx | hx<;>rcases List.mem_append.1 hy with hy | hy
  ·exact a3 x hx y hy
  ·exact F0 a1 b2 h1 x hx y hy
  ·exact F0 b1 a2 h2 x hx y hy
  ·exact b3 x hx y hy
theorem kC {l:List Nat}{i x:Nat}(h:l[i]?=some x):l.getD i 0=x:=by simp[List.getD_eq_getElem?_getD,h]
section
variable (m:IM) (id vb:Nat) (ks:List (List UInt8)) (k:Int) (t:List UInt8) (V:IV) (cd:id<m.size) (hne:vb≠id) (hvb:ks≠[]→m.get vb=.cells [.int .i64 k,.str t,.sl (ks.map .str) ks.length,V] [.any,.any,.any,.any])
include cd hne hvb
theorem Ot (N:Nat) (hN:N≤1000000) (A:List Nat) (x:Nat) (Y Q:List Nat) (hY:Y.Pairwise (jk ks)) (hl:A.length+1+Y.length+Q.length=N) (hk:∀y,y∈A++([x]++(Y++Q))→y<ks.length) (a n b:Nat) (ha:a=A.length) (hn:n=a+1) (hb:b=n+Y.length) :
  ∃Z,Z.Perm ([x]++Y)∧Z.Pairwise (jk ks)∧cw (.f 181) [.sB id 0 N 1,.int .i64 (a:Int),.int .i64 (n:Int),.int .i64 (b:Int),fW vb] (dM m id (A++([x]++(Y++Q))))=some (.db [],dM m id (A++(Z++Q))):=by
 have hll:(A++([x]++(Y++Q))).length=N:=by simp only[List.length_append,List.length_cons,List.length_nil];omega
 obtain⟨p,p1,p2,p3,p4,p5⟩:=TY m id vb ks k t V cd hne hvb N hN _ hll hk a (by omega) (b-n) n b (Nat.le_refl _) (by omega) (by omega);have hxa:(A++([x]++(Y++Q)))[a]?=some x:=by rw[ha];exact nF A x (Y++Q)
 have hat:∀i,i<Y.length→(A++([x]++(Y++Q)))[n+i]?=Y[i]?:=by intro i hi;rw[List.getElem?_append_right (by omega),List.getElem?_append_right (by simp only[List.length_cons,List.length_nil];omega),List.getElem?_append_left (by simp only[List.length_cons,List.length_nil];omega)];congr 1;simp only[List.length_cons,List.length_nil];omega
 rw[kC hxa] at p3 p4;obtain⟨c1,c2,c3⟩:=xN hY (p-n);have hlt:(Y.take (p-n)).length=p-n:=by rw[List.length_take];omega
 refine⟨Y.take (p-n)++x::Y.drop (p-n),?_,?_,?_⟩
 ·refine List.perm_middle.trans ?_;rw[List.take_append_drop];exact .refl _
 ·have e1:∀y,y∈Y.take (p-n)→jk ks y x:=by
   intro y hy;have hp:p-n-1<Y.length:=by
    rcases Nat.eq_zero_or_pos (p-n) with q | q
    ·rw[q] at hy;simp at hy
    ·omega
   have hp0:0<p-n:=by
    rcases Nat.eq_zero_or_pos (p-n) with q | q
    ·rw[q] at hy;simp at hy
    ·exact q
   rcases p3 with q | q
   ·omega
   ·have h1:=hat (p-n-1) hp;rw[show n+(p-n-1)=p-1 by omega,List.getElem?_eq_getElem hp] at h1;rw[kC h1] at q;have hz:(Y.take (p-n))[(Y.take (p-n)).length-1]?=some Y[p-n-1]:=by rw[hlt,List.getElem?_take,if_pos (by omega),List.getElem?_eq_getElem hp]
    exact jG (uW c1 _ hz y hy) (sW q)
  have e2:∀y,y∈Y.drop (p-n)→jk ks x y:=by
   intro y hy;have hp:p-n<Y.length:=by
    rcases Nat.lt_or_ge (p-n) Y.length with q | q
    ·exact q
    ·rw[List.drop_eq_nil_iff.2 q] at hy;cases hy
   rcases p4 with q | q
   ·omega
   ·have h1:=hat (p-n) hp;rw[show n+(p-n)=p by omega,List.getElem?_eq_getElem hp] at h1;rw[kC h1] at q;have hz:(Y.drop (p-n))[0]?=some Y[p-n]:=by rw[List.getElem?_drop,Nat.add_zero,List.getElem?_eq_getElem hp]
    exact jG q (oy c2 _ hz y hy)
  refine List.pairwise_append.2 ⟨c1,List.pairwise_cons.2 ⟨e2,c2⟩,fun u hu w hw=>?_⟩;rcases List.mem_cons.1 hw with rfl | hw
  ·exact e1 u hu
  ·exact c3 u hu w hw
 ·have hL:=OW m id cd N hN x (Y.drop (p-n)++Q) (Y.take (p-n)) A (by rw[hlt,List.length_append,List.length_drop];omega);have e1:A++x::(Y.take (p-n)++(Y.drop (p-n)++Q))=A++([x]++(Y++Q)):=by rw[←List.append_assoc (Y.take (p-n)),List.take_append_drop];rfl
  have e2:A++(Y.take (p-n)++x::(Y.drop (p-n)++Q))=A++((Y.take (p-n)++x::Y.drop (p-n))++Q):=by simp
  rw[e1,e2,hlt,show A.length+(p-n)+1=p by omega,←ha] at hL;have w1:IntKind.i64.wrap ((n:Int)-(a:Int))=1:=by rw[w64 (by omega) (by omega)];omega
  apply oZ;simp only[Ip,w1,BEq.rfl,go_sem,if_true,eH,eI,p5,hL];exact i7 m id _ _
theorem Mi (N:Nat) (hN:N≤1000000) (A X:List Nat) (y:Nat) (Q:List Nat) (hX:X.Pairwise (jk ks)) (hl:A.length+X.length+1+Q.length=N) (hk:∀z,z∈A++(X++([y]++Q))→z<ks.length) (a n b:Nat) (ha:a=A.length) (hn:n=a+X.length) (hb:b=n+1) (h1:X.length≠1) :
  ∃Z,Z.Perm (X++[y])∧Z.Pairwise (jk ks)∧cw (.f 181) [.sB id 0 N 1,.int .i64 (a:Int),.int .i64 (n:Int),.int .i64 (b:Int),fW vb] (dM m id (A++(X++([y]++Q))))=some (.db [],dM m id (A++(Z++Q))):=by
 have hll:(A++(X++([y]++Q))).length=N:=by simp only[List.length_append,List.length_cons,List.length_nil];omega
 obtain⟨p,p1,p2,p3,p4,p5⟩:=TZ m id vb ks k t V cd hne hvb N hN _ hll hk n (by omega) (n-a) a n (Nat.le_refl _) (by omega) (by omega);have hyn:(A++(X++([y]++Q)))[n]?=some y:=by have:=nF (A++X) y Q;rw[List.length_append,←ha,←hn] at this;simpa using this
 have hat:∀i,i<X.length→(A++(X++([y]++Q)))[a+i]?=X[i]?:=by intro i hi;rw[List.getElem?_append_right (by omega),List.getElem?_append_left (by omega)];congr 1;omega
 rw[kC hyn] at p3 p4;obtain⟨c1,c2,c3⟩:=xN hX (p-a);have hlt:(X.take (p-a)).length=p-a:=by rw[List.length_take];omega
 refine⟨X.take (p-a)++y::X.drop (p-a),?_,?_,?_⟩
 ·refine List.perm_middle.trans ?_;rw[List.take_append_drop];have:=List.perm_append_comm (l₁:=[y]) (l₂:=X);exact this
 ·have e1:∀z,z∈X.take (p-a)→jk ks z y:=by
   intro z hz;have hp0:0<p-a:=by
    rcases Nat.eq_zero_or_pos (p-a) with q | q
    ·rw[q] at hz;simp at hz
    ·exact q
   have hp:p-a-1<X.length:=by omega
   rcases p3 with q | q
   ·omega
   ·have g1:=hat (p-a-1) hp;rw[show a+(p-a-1)=p-1 by omega,List.getElem?_eq_getElem hp] at g1;rw[kC g1] at q;have hz2:(X.take (p-a))[(X.take (p-a)).length-1]?=some X[p-a-1]:=by rw[hlt,List.getElem?_take,if_pos (by omega),List.getElem?_eq_getElem hp]
    exact jG (uW c1 _ hz2 z hz) q
  have e2:∀z,z∈X.drop (p-a)→jk ks y z:=by
   intro z hz;have hp:p-a<X.length:=by
    rcases Nat.lt_or_ge (p-a) X.length with q | q
    ·exact q
    ·rw[List.drop_eq_nil_iff.2 q] at hz;cases hz
   rcases p4 with q | q
   ·omega
   ·have g1:=hat (p-a) hp;rw[show a+(p-a)=p by omega,List.getElem?_eq_getElem hp] at g1;rw[kC g1] at q;have hz2:(X.drop (p-a))[0]?=some X[p-a]:=by rw[List.getElem?_drop,Nat.add_zero,List.getElem?_eq_getElem hp]
    exact jG (sW q) (oy c2 _ hz2 z hz)
  refine List.pairwise_append.2 ⟨c1,List.pairwise_cons.2 ⟨e2,c2⟩,fun u hu w hw=>?_⟩;rcases List.mem_cons.1 hw with rfl | hw
  ·exact e1 u hu
  ·exact c3 u hu w hw
 ·have hL:=OX m id cd N hN y (A++X.take (p-a)) (X.drop (p-a)).reverse Q (by simp only[List.length_append,List.length_reverse,List.length_drop,hlt];omega);rw[List.reverse_reverse,List.length_reverse] at hL;have e1:(A++X.take (p-a))++(X.drop (p-a)++y::Q)=A++(X++([y]++Q)):=by rw[List.append_assoc,←List.append_assoc (X.take (p-a)),List.take_append_drop];rfl
  have e2:(A++X.take (p-a))++y::(X.drop (p-a)++Q)=A++((X.take (p-a)++y::X.drop (p-a))++Q):=by simp
  have e3:(A++X.take (p-a)).length=p:=by rw[List.length_append,hlt];omega
  rw[e1,e2,e3,show p+(X.drop (p-a)).length=n by rw[List.length_drop];omega] at hL;have w1:(IntKind.i64.wrap ((n:Int)-(a:Int))==1)=false:=by rw[w64 (by omega) (by omega)];rw[beq_eq_false_iff_ne];omega
  have w2:IntKind.i64.wrap ((b:Int)-(n:Int))=1:=by rw[w64 (by omega) (by omega)];omega
  apply oZ;simp only[Ip,w1,w2,BEq.rfl,go_sem,Bool.false_eq_true,if_false,if_true,eH,eI,p5,hL];exact i7 m id _ _
end
section
variable (m:IM) (id vb:Nat) (ks:List (List UInt8)) (k:Int) (t:List UInt8) (V:IV) (cd:id<m.size) (hne:vb≠id) (hvb:ks≠[]→m.get vb=.cells [.int .i64 k,.str t,.sl (ks.map .str) ks.length,V] [.any,.any,.any,.any])
include cd hne hvb
set_option maxHeartbeats 4000000 in
theorem Bq (N:Nat) (hN:N≤1000000):∀(f:Nat) (A X Y Q:List Nat),X.length+Y.length≤f→X≠[]→Y≠[]→X.Pairwise (jk ks)→Y.Pairwise (jk ks)→A.length+X.length+Y.length+Q.length=N→(∀y,y∈A++(X++(Y++Q))→y<ks.length)→∀(a n b:Nat),a=A.length→n=a+X.length→b=n+Y.length →
  ∃Z,Z.Perm (X++Y)∧Z.Pairwise (jk ks)∧cw (.f 181) [.sB id 0 N 1,.int .i64 (a:Int),.int .i64 (n:Int),.int .i64 (b:Int),fW vb] (dM m id (A++(X++(Y++Q))))=some (.db [],dM m id (A++(Z++Q)))
 |0,A,X,Y,Q,hf,hX,hY,sX,sY,hl,hk,a,n,b,ha,hn,hb=>by
  have:X=[]:=List.length_eq_zero_iff.1 (by omega);exact (hX this).elim
 |f+1,A,X,Y,Q,hf,hX,hY,sX,sY,hl,hk,a,n,b,ha,hn,hb=>by
  have hX1:1≤X.length:=by cases X with
   |nil=>exact (hX rfl).elim
   |cons _ _=>simp
  have hY1:1≤Y.length:=by cases Y with
   |nil=>exact (hY rfl).elim
   |cons _ _=>simp
  by_cases hx1:X.length=1
  ·obtain⟨x,rfl⟩:=List.length_eq_one_iff.1 hx1;exact Ot m id vb ks k t V cd hne hvb N hN A x Y Q sY (by simpa using hl) hk a n b ha (by simpa using hn) hb
  by_cases hy1:Y.length=1
  ·obtain⟨y,rfl⟩:=List.length_eq_one_iff.1 hy1;exact Mi m id vb ks k t V cd hne hvb N hN A X y Q sX (by simpa using hl) hk a n b ha hn (by simpa using hb) hx1
  have hll:(A++(X++(Y++Q))).length=N:=by simp only[List.length_append];omega
  obtain⟨mid,hmid⟩:∃mid,mid=(a+b)/2:=⟨_,rfl⟩
  have hhalf:=uS a b (by omega);rw[←hmid] at hhalf;have hm1:a<mid∧mid<b:=by omega
  obtain⟨i0,j0,hC0,hi0,hij0,hj0n,hcase⟩:∃i0 j0:Nat,(∀mm:IM,uG (.sB id 0 N 1) a n b (fW vb) mid ((mid+n:Nat):Int) mm=some (.normal,[.sB id 0 N 1,.int .i64 (a:Int),.int .i64 (n:Int),.int .i64 (b:Int),fW vb,.int .i64 (mid:Int),.int .i64 ((mid+n:Nat):Int),.int .i64 (i0:Int),.int .i64 (j0:Int)],[],mm))∧a≤i0∧i0≤j0∧j0≤n∧((i0=a∨mid+n-i0=b)∧(j0=n∨mid+n-j0=n)∧j0≤mid∧mid+n-i0≤b):=by
   by_cases g:mid<n
   ·refine⟨mid+n-b,mid,fun mm=>?_,by omega,by omega,by omega,by omega⟩;have g':(n:Int)>(mid:Int):=by omega
    have w:IntKind.i64.wrap (((mid+n:Nat):Int)-(b:Int))=((mid+n-b:Nat):Int):=by rw[w64 (by omega) (by omega)];omega
    simp only[uG,go_sem,decide_eq_true g',if_true,w]
   ·refine⟨a,n,fun mm=>?_,Nat.le_refl _,by omega,Nat.le_refl _,by omega⟩;have g':¬(n:Int)>(mid:Int):=by omega
    simp only[uG,go_sem,decide_eq_false g',Bool.false_eq_true,if_false]
  obtain⟨hca,hcb,hcc,hcd⟩:=hcase;obtain⟨s,s1,s2,s3,s4,s5⟩:=T0 m id vb ks k t V cd hne hvb N hN _ hll hk (a:Int) (n:Int) (b:Int) (mid:Int) ((mid+n:Nat):Int) (mid+n-1) (j0-i0) i0 j0 (Nat.le_refl _) hij0 (by omega) (fun _=>by omega) (fun c g1 g2=>by omega) (by omega);have wn1:IntKind.i64.wrap ((mid:Int)+(n:Int))=((mid+n:Nat):Int):=by rw[w64 (by omega) (by omega)];omega
  have wp:IntKind.i64.wrap (((mid+n:Nat):Int)-1)=((mid+n-1:Nat):Int):=by rw[w64 (by omega) (by omega)];omega
  obtain⟨e,he⟩:∃e,e=mid+n-s:=⟨_,rfl⟩
  have we:IntKind.i64.wrap (((mid+n:Nat):Int)-(s:Int))=(e:Int):=by rw[w64 (by omega) (by omega)];omega
  have hsn:a≤s∧s≤n:=by omega
  have hen:n≤e∧e≤b:=by omega
  obtain⟨X1,X2,hXX,hX1l⟩:∃X1 X2,X=X1++X2∧X1.length=s-a:=⟨X.take (s-a),X.drop (s-a),(List.take_append_drop _ _).symm,by rw[List.length_take];omega⟩
  obtain⟨Y1,Y2,hYY,hY1l⟩:∃Y1 Y2,Y=Y1++Y2∧Y1.length=e-n:=⟨Y.take (e-n),Y.drop (e-n),(List.take_append_drop _ _).symm,by rw[List.length_take];omega⟩
  have hX2l:X2.length=n-s:=by have:=congrArg List.length hXX;rw[List.length_append] at this;omega
  have hY2l:Y2.length=b-e:=by have:=congrArg List.length hYY;rw[List.length_append] at this;omega
  have atX:∀i,i<X.length→(A++(X++(Y++Q)))[a+i]?=X[i]?:=by intro i hi;rw[List.getElem?_append_right (by omega),List.getElem?_append_left (by omega)];congr 1;omega
  have atY:∀i,i<Y.length→(A++(X++(Y++Q)))[n+i]?=Y[i]?:=by intro i hi;rw[List.getElem?_append_right (by omega),List.getElem?_append_right (by omega),List.getElem?_append_left (by omega)];congr 1;omega
  have cross1:Ci ks X1 Y2:=by
   intro z w hz hw;have hz0:X1.length-1<X1.length:=(List.getElem?_eq_some_iff.1 hz).1;have hw0:0<Y2.length:=(List.getElem?_eq_some_iff.1 hw).1;rcases s3 with q | q
   ·omega
   ·have g1:(A++(X++(Y++Q)))[s-1]?=some z:=by have q1:=atX (s-1-a) (by omega);rw[show a+(s-1-a)=s-1 by omega] at q1;rw[q1,hXX,List.getElem?_append_left (by omega),show s-1-a=X1.length-1 by omega];exact hz
    have g2:(A++(X++(Y++Q)))[mid+n-1-(s-1)]?=some w:=by have q1:=atY (e-n) (by omega);rw[show n+(e-n)=mid+n-1-(s-1) by omega] at q1;rw[q1,hYY,List.getElem?_append_right (by omega),show e-n-Y1.length=0 by omega];exact hw
    rw[kC g1,kC g2] at q;exact q
  have cross2:Ci ks Y1 X2:=by
   intro z w hz hw;have hz0:Y1.length-1<Y1.length:=(List.getElem?_eq_some_iff.1 hz).1;have hw0:0<X2.length:=(List.getElem?_eq_some_iff.1 hw).1;rcases s4 with q | q
   ·omega
   ·have g1:(A++(X++(Y++Q)))[s]?=some w:=by have q1:=atX (s-a) (by omega);rw[show a+(s-a)=s by omega] at q1;rw[q1,hXX,List.getElem?_append_right (by omega),show s-a-X1.length=0 by omega];exact hw
    have g2:(A++(X++(Y++Q)))[mid+n-1-s]?=some z:=by have q1:=atY (e-n-1) (by omega);rw[show n+(e-n-1)=mid+n-1-s by omega] at q1;rw[q1,hYY,List.getElem?_append_left (by omega),show e-n-1=Y1.length-1 by omega];exact hz
    rw[kC g1,kC g2] at q;exact sW q
  have sX':=sX;have sY':=sY;rw[hXX] at sX';rw[hYY] at sY';obtain⟨sX1,sX2,_⟩:=List.pairwise_append.1 sX';obtain⟨sY1,sY2,_⟩:=List.pairwise_append.1 sY';have hl0:A++(X++(Y++Q))=A++(X1++(X2++(Y1++(Y2++Q)))):=by rw[hXX,hYY];simp
  have hk':∀y,(y∈A∨y∈X1∨y∈X2∨y∈Y1∨y∈Y2∨y∈Q)→y<ks.length:=by intro y hy;apply hk y;rw[hl0];simp only[List.mem_append];rcases hy with h | h | h | h | h | h<;>simp[h]
  have hC2:qW (.sB id 0 N 1) a n b (fW vb) mid s e (dM m id (A++(X++(Y++Q))))=some (.normal,[.sB id 0 N 1,.int .i64 (a:Int),.int .i64 (b:Int),fW vb,.int .i64 (mid:Int),.int .i64 (s:Int),.int .i64 (e:Int)],[],dM m id (A++(X1++(Y1++(X2++(Y2++Q)))))):=by
   by_cases g:s<n∧n<e
   ·have g1:(s:Int)<(n:Int):=by omega
    have g2:(n:Int)<(e:Int):=by omega
    have hr:=Sp m id vb cd N hN (A++X1) X2 Y1 (Y2++Q) (by rintro rfl;simp only[List.length_nil] at hX2l;omega) (by rintro rfl;simp only[List.length_nil] at hY1l;omega) (by simp only[List.length_append];omega);rw[show (A++X1).length=s by rw[List.length_append];omega,show s+X2.length=n by omega,show n+Y1.length=e by omega] at hr;have e1:(A++X1)++(X2++(Y1++(Y2++Q)))=A++(X++(Y++Q)):=by rw[hl0];simp
    have e2:(A++X1)++(Y1++(X2++(Y2++Q)))=A++(X1++(Y1++(X2++(Y2++Q)))):=by simp
    rw[e1,e2] at hr;have h1:=fun K2:IV→IM→Option LR=>ae hr (by rfl) K2;simp only[qW,uH,go_sem,decide_eq_true g1,decide_eq_true g2,if_true,h1]
   ·have hsame:A++(X++(Y++Q))=A++(X1++(Y1++(X2++(Y2++Q)))):=by
     rw[hl0];by_cases g1:s<n
     ·have:Y1=[]:=List.length_eq_zero_iff.1 (by omega);subst this;simp
     ·have:X2=[]:=List.length_eq_zero_iff.1 (by omega);subst this;simp
    rw[←hsame];by_cases g1:s<n
    ·have g1':(s:Int)<(n:Int):=by omega
     have g2':¬(n:Int)<(e:Int):=by omega
     simp only[qW,uH,go_sem,decide_eq_true g1',decide_eq_false g2',if_true,Bool.false_eq_true,if_false]
    ·have g1':¬(s:Int)<(n:Int):=by omega
     simp only[qW,uH,go_sem,decide_eq_false g1',Bool.false_eq_true,if_false,if_true]
  obtain⟨Z1,z1p,z1s,hC4⟩:∃Z1,Z1.Perm (X1++Y1)∧Z1.Pairwise (jk ks)∧qX (.sB id 0 N 1) a b (fW vb) mid s e (dM m id (A++(X1++(Y1++(X2++(Y2++Q))))))=some (.normal,[.sB id 0 N 1,.int .i64 (b:Int),fW vb,.int .i64 (mid:Int),.int .i64 (e:Int)],[],dM m id (A++(Z1++(X2++(Y2++Q))))):=by
   by_cases g:a<s∧s<mid
   ·have g1:(a:Int)<(s:Int):=by omega
    have g2:(s:Int)<(mid:Int):=by omega
    obtain⟨Z,q1,q2,q3⟩:=Bq N hN f A X1 Y1 (X2++(Y2++Q)) (by omega) (by rintro rfl;simp only[List.length_nil] at hX1l;omega) (by rintro rfl;simp only[List.length_nil] at hY1l;omega) sX1 sY1 (by simp only[List.length_append];omega)
     (fun y hy=>hk' y (by simp only[List.mem_append] at hy;rcases hy with h | h | h | h | h | h<;>simp[h])) a s mid ha (by omega) (by omega)
    have h1:=fun K2:IV→IM→Option LR=>ae q3 (by rfl) K2;refine⟨Z,q1,q2,?_⟩;simp only[qX,uJ,go_sem,decide_eq_true g1,decide_eq_true g2,if_true,h1]
   ·refine⟨X1++Y1,.refl _,?_,?_⟩
    ·by_cases g1:a<s
     ·have:Y1=[]:=List.length_eq_zero_iff.1 (by omega);subst this;simpa using sX1
     ·have:X1=[]:=List.length_eq_zero_iff.1 (by omega);subst this;simpa using sY1
    ·rw[List.append_assoc X1];by_cases g1:a<s
     ·have g1':(a:Int)<(s:Int):=by omega
      have g2':¬(s:Int)<(mid:Int):=by omega
      simp only[qX,uJ,go_sem,decide_eq_true g1',decide_eq_false g2',if_true,Bool.false_eq_true,if_false]
     ·have g1':¬(a:Int)<(s:Int):=by omega
      simp only[qX,uJ,go_sem,decide_eq_false g1',Bool.false_eq_true,if_false,if_true]
  have hZ1l:Z1.length=mid-a:=by rw[z1p.length_eq,List.length_append];omega
  have w1:(IntKind.i64.wrap ((n:Int)-(a:Int))==1)=false:=by rw[w64 (by omega) (by omega),beq_eq_false_iff_ne];omega
  have w2:(IntKind.i64.wrap ((b:Int)-(n:Int))==1)=false:=by rw[w64 (by omega) (by omega),beq_eq_false_iff_ne];omega
  by_cases g:mid<e∧e<b
  ·have g1:(mid:Int)<(e:Int):=by omega
   have g2:(e:Int)<(b:Int):=by omega
   obtain⟨Z2,q1,q2,q3⟩:=Bq N hN f (A++Z1) X2 Y2 Q (by omega) (by rintro rfl;simp only[List.length_nil] at hX2l;omega) (by rintro rfl;simp only[List.length_nil] at hY2l;omega) sX2 sY2 (by simp only[List.length_append];omega)
    (fun y hy=>by
     simp only[List.mem_append] at hy;rcases hy with (h | h) | h | h | h
     ·exact hk' y (.inl h)
     ·rcases List.mem_append.1 (z1p.mem_iff.1 h) with h | h
      ·exact hk' y (.inr (.inl h))
      ·exact hk' y (by simp[h])
     ·exact hk' y (by simp[h])
     ·exact hk' y (by simp[h])
     ·exact hk' y (by simp[h])) mid e b (by rw[List.length_append];omega) (by omega) (by omega)
   obtain⟨p1,p2⟩:=CI sX' sY' cross1 cross2 z1p q1 z1s q2;rw[←hXX,←hYY] at p1;refine⟨Z1++Z2,p1,p2,?_⟩;have e1:(A++Z1)++(X2++(Y2++Q))=A++(Z1++(X2++(Y2++Q))):=by simp
   have e2:(A++Z1)++(Z2++Q)=A++((Z1++Z2)++Q):=by simp
   rw[e1,e2] at q3;have h1:=fun K2:IV→IM→Option (IV×IM)=>ae q3 (by rfl) K2;have hC5:∀mm:IM,oY (.sB id 0 N 1) b (fW vb) mid e mm=some (.normal,[.sB id 0 N 1,.int .i64 (b:Int),fW vb,.int .i64 (mid:Int),.int .i64 (e:Int),.bool true],[],mm):=by intro mm;simp only[oY,go_sem,decide_eq_true g1,decide_eq_true g2,if_true]
   apply oZ;simp only[Ip,w1,w2,go_sem,Bool.false_eq_true,if_false,hhalf,wn1,hC0,if_true,eH,eI,wp,s5,we,hC2,hC4,hC5,h1];exact i7 m id _ _
  ·have hsrt:(X2++Y2).Pairwise (jk ks):=by
    by_cases g1:mid<e
    ·have:Y2=[]:=List.length_eq_zero_iff.1 (by omega);subst this;simpa using sX2
    ·have:X2=[]:=List.length_eq_zero_iff.1 (by omega);subst this;simpa using sY2
   obtain⟨p1,p2⟩:=CI sX' sY' cross1 cross2 z1p (.refl (X2++Y2)) z1s hsrt;rw[←hXX,←hYY] at p1;refine⟨Z1++(X2++Y2),p1,p2,?_⟩;have e2:A++((Z1++(X2++Y2))++Q)=A++(Z1++(X2++(Y2++Q))):=by simp
   rw[e2];have hC5:∀mm:IM,oY (.sB id 0 N 1) b (fW vb) mid e mm=some (.normal,[.sB id 0 N 1,.int .i64 (b:Int),fW vb,.int .i64 (mid:Int),.int .i64 (e:Int),.bool false],[],mm):=by
    intro mm;by_cases g1:mid<e
    ·have g1':(mid:Int)<(e:Int):=by omega
     have g2':¬(e:Int)<(b:Int):=by omega
     simp only[oY,go_sem,decide_eq_true g1',decide_eq_false g2',if_true]
    ·have g1':¬(mid:Int)<(e:Int):=by omega
     simp only[oY,go_sem,decide_eq_false g1',Bool.false_eq_true,if_false]
   apply oZ;simp only[Ip,w1,w2,go_sem,Bool.false_eq_true,if_false,hhalf,wn1,hC0,if_true,eH,eI,wp,s5,we,hC2,hC4,hC5];exact i7 m id _ _
end
inductive qf (ks:List (List UInt8)) (s:Nat):List Nat→Prop
 |last {X:List Nat}:X.length≤s→X.Pairwise (jk ks)→qf ks s X
 |cons {X r:List Nat}:X.length=s→X.Pairwise (jk ks)→qf ks s r→qf ks s (X++r)
inductive Full (ks:List (List UInt8)) (s:Nat):List Nat→Prop
 |nil:Full ks s []
 |cons {X r:List Nat}:X.length=s→X.Pairwise (jk ks)→Full ks s r→Full ks s (X++r)
theorem Full.app {ks:List (List UInt8)}{s:Nat}{D Z:List Nat}(h:Full ks s D) (h1:Z.length≤s) (h2:Z.Pairwise (jk ks)):qf ks s (D++Z):=by
 induction h with
 |nil=>exact .last h1 h2
 |cons hx hp _ ih=>rw[List.append_assoc];exact .cons hx hp ih
theorem qf.short {ks:List (List UInt8)}{s:Nat}{r:List Nat}(h:qf ks s r) (hl:r.length≤s):r.Pairwise (jk ks):=by
 cases h with
 |last _ h=>exact h
 | @cons X r hx hp hr =>have:r=[]:=List.length_eq_zero_iff.1 (by rw[List.length_append] at hl;omega);subst this;rw[List.append_nil];exact hp
theorem qf.head {ks:List (List UInt8)}{s:Nat}{r:List Nat}(h:qf ks s r) (hl:s<r.length):∃X r1,r=X++r1∧X.length=s∧X.Pairwise (jk ks)∧qf ks s r1:=by
 cases h with
 |last h _=>omega
 | @cons X r hx hp hr=>exact⟨X,r,rfl,hx,hp,hr⟩
theorem qf.Ur {ks:List (List UInt8)}{s:Nat}{r:List Nat}(h:qf ks s r) (hl:s≤r.length):∃X r1,r=X++r1∧X.length=s∧X.Pairwise (jk ks)∧qf ks s r1:=by
 cases h with
 |last h hp=>exact⟨r,[],(List.append_nil r).symm,by omega,hp,.last (Nat.zero_le _) .nil⟩
 | @cons X r hx hp hr=>exact⟨X,r,rfl,hx,hp,hr⟩
section
variable (m:IM) (id vb:Nat) (ks:List (List UInt8)) (k:Int) (t:List UInt8) (V:IV) (cd:id<m.size) (hne:vb≠id) (hvb:ks≠[]→m.get vb=.cells [.int .i64 k,.str t,.sl (ks.map .str) ks.length,V] [.any,.any,.any,.any])
include cd hne hvb
theorem TU (N:Nat) (hN:N≤1000000):∀(f:Nat) (D r:List Nat),r.length≤f→D.length+r.length=N→(∀y,y∈D++r→y<ks.length) →
  ∃D' r',(D'++r').Perm r∧Full ks 20 D'∧r'.length<20∧Ac (.sB id 0 N 1) N (fW vb) 20 (D.length:Int) ((D.length+20:Nat):Int) (dM m id (D++r))=some (.exit 0,[.sB id 0 N 1,.int .i64 (N:Int),fW vb,.int .i64 20,.int .i64 ((D.length+D'.length:Nat):Int)],[],dM m id (D++(D'++r'))):=by
 intro f
 induction f with
 |zero =>
  intro D r hf hl hk;have c1:¬((D.length+20:Nat):Int)≤(N:Int):=by omega
  refine⟨[],r,.refl _,.nil,by omega,?_⟩;rw[sq];simp only[zI,go_sem,decide_eq_false c1,Bool.false_eq_true,if_false,List.nil_append,List.length_nil,Nat.add_zero]
 |succ f ih =>
  intro D r hf hl hk;by_cases g:D.length+20≤N
  ·have c1:((D.length+20:Nat):Int)≤(N:Int):=by omega
   obtain⟨X,r1,rfl,hX⟩:∃X r1,r=X++r1∧X.length=20:=⟨r.take 20,r.drop 20,(List.take_append_drop _ _).symm,by rw[List.length_take];omega⟩
   simp only[List.length_append] at hf hl;obtain⟨X',x1,x2,x3⟩:=KI m id vb ks k t V cd hne hvb N hN D X r1 hk (by omega);rw[hX] at x3;have h1:=fun K2:IV→IM→Option (St⊕LR)=>ae x3 (by rfl) K2;have hX':X'.length=20:=by rw[x1.length_eq,hX]
   obtain⟨D',r',p1,p2,p3,p4⟩:=ih (D++X') r1 (by omega) (by rw[List.length_append];omega) (fun y hy=>by
    apply hk y;simp only[List.mem_append] at hy ⊢;rcases hy with (h | h) | h
    ·exact .inl h
    ·exact .inr (.inl (x1.mem_iff.1 h))
    ·exact .inr (.inr h))
   have hw:IntKind.i64.wrap (((D.length+20:Nat):Int)+20)=((D.length+20+20:Nat):Int):=by rw[w64 (by omega) (by omega)];omega
   refine⟨X'++D',r',?_,.cons hX' x2 p2,p3,?_⟩
   ·rw[List.append_assoc];exact x1.append p1
   ·have e1:(D++X')++r1=D++(X'++r1):=by simp
    have e2:(D++X')++(D'++r')=D++((X'++D')++r'):=by simp
    have e3:(D++X').length=D.length+20:=by rw[List.length_append,hX']
    have e4:D.length+20+D'.length=D.length+(X'++D').length:=by rw[List.length_append,hX'];omega
    rw[e1,e2,e3,e4] at p4;rw[sq,←p4];generalize D.length+20+20=b2 at *;simp only[zI,go_sem,decide_eq_true c1,if_true,h1,eH,eI,hw];rfl
  ·have c1:¬((D.length+20:Nat):Int)≤(N:Int):=by omega
   refine⟨[],r,.refl _,.nil,by omega,?_⟩;rw[sq];simp only[zI,go_sem,decide_eq_false c1,Bool.false_eq_true,if_false,List.nil_append,List.length_nil,Nat.add_zero]
theorem TV (N:Nat) (hN:N≤1000000) (s:Nat) (hs:1≤s) (hs2:s≤2000000):∀(f:Nat) (D r:List Nat),r.length≤f→D.length+r.length=N→(∀y,y∈D++r→y<ks.length)→qf ks s r →
  ∃D' r',(D'++r').Perm r∧Full ks (2*s) D'∧qf ks s r'∧r'.length<2*s∧Ad (.sB id 0 N 1) N (fW vb) s (D.length:Int) ((D.length+2*s:Nat):Int) (dM m id (D++r))=some (.exit 4,[.sB id 0 N 1,.int .i64 (N:Int),fW vb,.int .i64 (s:Int),.int .i64 ((D.length+D'.length:Nat):Int)],[],dM m id (D++(D'++r'))):=by
 intro f
 induction f with
 |zero =>
  intro D r hf hl hk hb;have c1:¬((D.length+2*s:Nat):Int)≤(N:Int):=by omega
  refine⟨[],r,.refl _,.nil,hb,by omega,?_⟩;rw[ss];simp only[zJ,go_sem,decide_eq_false c1,Bool.false_eq_true,if_false,List.nil_append,List.length_nil,Nat.add_zero]
 |succ f ih =>
  intro D r hf hl hk hb;by_cases g:D.length+2*s≤N
  ·have c1:((D.length+2*s:Nat):Int)≤(N:Int):=by omega
   obtain⟨X,r0,rfl,hX,sX,hb0⟩:=hb.head (by omega);rw[List.length_append] at hf hl;obtain⟨Y,r1,rfl,hY,sY,hb1⟩:=hb0.Ur (by omega);rw[List.length_append] at hf hl;obtain⟨Z,z1,z2,z3⟩:=Bq m id vb ks k t V cd hne hvb N hN (X.length+Y.length) D X Y r1 (Nat.le_refl _) (by rintro rfl;simp only[List.length_nil] at hX;omega) (by rintro rfl;simp only[List.length_nil] at hY;omega) sX sY (by omega) hk D.length (D.length+s) (D.length+2*s) rfl (by omega) (by omega);have h1:=fun K2:IV→IM→Option (St⊕LR)=>ae z3 (by rfl) K2;have hZ:Z.length=2*s:=by rw[z1.length_eq,List.length_append];omega
   obtain⟨D',r',p1,p2,p3,p4,p5⟩:=ih (D++Z) r1 (by omega) (by rw[List.length_append];omega) (fun y hy=>by
    apply hk y;simp only[List.mem_append] at hy ⊢;rcases hy with (h | h) | h
    ·exact .inl h
    ·rcases List.mem_append.1 (z1.mem_iff.1 h) with h | h
     ·exact .inr (.inl h)
     ·exact .inr (.inr (.inl h))
    ·exact .inr (.inr (.inr h))) hb1
   have hw:IntKind.i64.wrap ((D.length:Int)+(s:Int))=((D.length+s:Nat):Int):=by rw[w64 (by omega) (by omega)];omega
   have hw2:IntKind.i64.wrap (2*(s:Int))=((2*s:Nat):Int):=by rw[w64 (by omega) (by omega)];omega
   have hw3:IntKind.i64.wrap (((D.length+2*s:Nat):Int)+((2*s:Nat):Int))=((D.length+2*s+2*s:Nat):Int):=by rw[w64 (by omega) (by omega)];omega
   refine⟨Z++D',r',?_,.cons hZ z2 p2,p3,p4,?_⟩
   ·rw[List.append_assoc,←List.append_assoc X];exact z1.append p1
   ·have e1:(D++Z)++r1=D++(Z++r1):=by simp
    have e2:(D++Z)++(D'++r')=D++((Z++D')++r'):=by simp
    have e3:(D++Z).length=D.length+2*s:=by rw[List.length_append,hZ]
    have e4:D.length+2*s+D'.length=D.length+(Z++D').length:=by rw[List.length_append,hZ];omega
    rw[e1,e2,e3,e4] at p5;rw[ss,←p5];generalize D.length+2*s+2*s=b2 at *;generalize D.length+2*s=b1 at *;simp only[zJ,go_sem,decide_eq_true c1,if_true,hw,h1,eH,eI,hw2,hw3];rfl
  ·have c1:¬((D.length+2*s:Nat):Int)≤(N:Int):=by omega
   refine⟨[],r,.refl _,.nil,hb,by omega,?_⟩;rw[ss];simp only[zJ,go_sem,decide_eq_false c1,Bool.false_eq_true,if_false,List.nil_append,List.length_nil,Nat.add_zero]
theorem TW (N:Nat) (hN:N≤1000000):∀(f s:Nat) (l:List Nat),N≤s+f→1≤s→s≤2000000→l.length=N→(∀y,y∈l→y<ks.length)→qf ks s l →
  ∃Z,Z.Perm l∧Z.Pairwise (jk ks)∧Ae (.sB id 0 N 1) N (fW vb) s (dM m id l)=some (.exit 2,[],[],dM m id Z):=by
 intro f
 induction f with
 |zero =>
  intro s l hf hs hs2 hl hk hb;have c1:¬(s:Int)<(N:Int):=by omega
  refine⟨l,.refl _,hb.short (by omega),?_⟩;rw[su];simp only[zK,go_sem,decide_eq_false c1,Bool.false_eq_true,if_false]
 |succ f ih =>
  intro s l hf hs hs2 hl hk hb;by_cases g:s<N
  ·have c1:(s:Int)<(N:Int):=by omega
   obtain⟨D,r,p1,p2,p3,p4,p5⟩:=TV m id vb ks k t V cd hne hvb N hN s hs hs2 l.length [] l (Nat.le_refl _) (by simpa using hl) (by simpa using hk) hb;simp only[List.nil_append,List.length_nil,Nat.zero_add] at p5;have p5':Ad (.sB id 0 N 1) N (fW vb) s 0 ((2*s:Nat):Int) (dM m id l)=_:=p5;have hDl:D.length+r.length=N:=by have:=p1.length_eq;rw[List.length_append] at this;omega
   have hkD:∀y,y∈D++r→y<ks.length:=fun y hy=>hk y (p1.mem_iff.1 hy);have hw2:IntKind.i64.wrap (2*(s:Int))=((2*s:Nat):Int):=by rw[w64 (by omega) (by omega)];omega
   have hw4:IntKind.i64.wrap ((s:Int)*2)=((2*s:Nat):Int):=by rw[w64 (by omega) (by omega)];omega
   have hwm:IntKind.i64.wrap ((D.length:Int)+(s:Int))=((D.length+s:Nat):Int):=by rw[w64 (by omega) (by omega)];omega
   obtain⟨r2,q1,q2,q3,q4⟩:∃r2,r2.Perm r∧r2.length≤2*s∧r2.Pairwise (jk ks)∧uE (.sB id 0 N 1) N (fW vb) s (D.length:Int) (dM m id (D++r))=some (.normal,[.sB id 0 N 1,.int .i64 (N:Int),fW vb,.int .i64 (s:Int)],[],dM m id (D++r2)):=by
    by_cases g2:D.length+s<N
    ·have c2:((D.length+s:Nat):Int)<(N:Int):=by omega
     obtain⟨X,Y,rfl,hX,sX,hbY⟩:=p3.head (by omega);rw[List.length_append] at p4 hDl;have sY:=hbY.short (by omega);obtain⟨Z,z1,z2,z3⟩:=Bq m id vb ks k t V cd hne hvb N hN (X.length+Y.length) D X Y [] (Nat.le_refl _) (by rintro rfl;simp only[List.length_nil] at hX;omega) (by rintro rfl;simp only[List.length_nil] at hDl;omega) sX sY (by simp only[List.length_nil];omega) (by simpa using hkD) D.length (D.length+s) N rfl (by omega) (by omega);rw[List.append_nil,List.append_nil] at z3;have h1:=fun K2:IV→IM→Option LR=>ae z3 (by rfl) K2;refine⟨Z,z1,by rw[z1.length_eq,List.length_append];omega,z2,?_⟩;simp only[uE,go_sem,hwm,decide_eq_true c2,if_true,h1]
    ·have c2:¬((D.length+s:Nat):Int)<(N:Int):=by omega
     refine⟨r,.refl _,by omega,p3.short (by omega),?_⟩;simp only[uE,go_sem,hwm,decide_eq_false c2,Bool.false_eq_true,if_false]
   have hperm:(D++r2).Perm l:=(List.Perm.append_left D q1).trans p1;by_cases g3:s≤1000000
   ·obtain⟨Z,z1,z2,z3⟩:=ih (2*s) (D++r2) (by omega) (by omega) (by omega) (by rw[hperm.length_eq];exact hl) (fun y hy=>hk y (hperm.mem_iff.1 hy)) (p2.app q2 q3);refine⟨Z,z1.trans hperm,z2,?_⟩;rw[su,←z3];generalize 2*s=s2 at *;simp only[zK,go_sem,decide_eq_true c1,if_true,eH,eI,hw2,p5',q4,hw4];rfl
   ·omega
  ·have c1:¬(s:Int)<(N:Int):=by omega
   refine⟨l,.refl _,hb.short (by omega),?_⟩;rw[su];simp only[zK,go_sem,decide_eq_false c1,Bool.false_eq_true,if_false]
theorem Oo (N:Nat) (hN:N≤1000000) (l:List Nat) (hl:l.length=N) (hk:∀y,y∈l→y<ks.length) :
  ∃Z,Z.Perm l∧Z.Pairwise (jk ks)∧cw (.f 168) [.sB id 0 N 1,fW vb] (dM m id l)=some (.db [],dM m id Z):=by
 obtain⟨D,r,p1,p2,p3,p4⟩:=TU m id vb ks k t V cd hne hvb N hN l.length [] l (Nat.le_refl _) (by simpa using hl) (by simpa using hk);simp only[List.nil_append,List.length_nil,Nat.zero_add] at p4;have p4':Ac (.sB id 0 N 1) N (fW vb) 20 0 20 (dM m id l)=_:=p4;have hDl:D.length+r.length=N:=by have:=p1.length_eq;rw[List.length_append] at this;omega
 obtain⟨r2,q1,q2,q3⟩:=KI m id vb ks k t V cd hne hvb N hN D r [] (fun y hy=>hk y (by rw[List.append_nil] at hy;exact p1.mem_iff.1 hy)) (by simp only[List.length_nil];omega);rw[List.append_nil,List.append_nil,hDl] at q3;have h1:=fun K2:IV→IM→Option (IV×IM)=>ae q3 (by rfl) K2;have hperm:(D++r2).Perm l:=(List.Perm.append_left D q1).trans p1;obtain⟨Z,z1,z2,z3⟩:=TW m id vb ks k t V cd hne hvb N hN N 20 (D++r2) (by omega) (by omega) (by omega) (by rw[hperm.length_eq];exact hl) (fun y hy=>hk y (hperm.mem_iff.1 hy)) (p2.app (by rw[q1.length_eq];omega) q2);have z3':Ae (.sB id 0 N 1) N (fW vb) 20 (dM m id (D++r2))=_:=z3;refine⟨Z,z1.trans hperm,z2,?_⟩;have h173:cw (.f 173) [.sB id 0 N 1,.int .i64 (N:Int),fW vb] (dM m id l)=some (.db [],dM m id Z):=by apply G5;simp only[TJ,eH,eI,p4',go_sem,if_true,h1,z3'];exact i7 m id _ _
 have h2:=fun K2:IV→IM→Option (IV×IM)=>ae h173 (by rfl) K2;have hlen:dW.ev .ay [.sB id 0 N 1]=some (.int .i64 (N:Int)):=by simp[dW.ev]
 apply GY;simp only[TG,au hlen,go_sem,h2];exact i7 m id _ _
end
theorem CZ {ks:List (List UInt8)}:∀{L1 L2:List Nat},L1.Perm L2→L1.Pairwise (jk ks)→L2.Pairwise (jk ks)→(∀a b,a∈L1→b∈L1→jk ks a b→jk ks b a→a=b)→L1=L2
 |[],L2,h,_,_,_=>(List.nil_perm.1 h).symm▸rfl
 |x::r1,[],h,_,_,_=>by have:=h.length_eq;simp at this
 |x::r1,y::r2,h,s1,s2,ha=>by
  have hx:x∈y::r2:=h.mem_iff.1 List.mem_cons_self;have hy:y∈x::r1:=h.mem_iff.2 List.mem_cons_self;have e:x=y:=ha x y List.mem_cons_self hy (oy s1 x rfl y hy) (oy s2 y rfl x hx);subst e;rw[CZ (List.Perm.cons_inv h) (List.pairwise_cons.1 s1).2 (List.pairwise_cons.1 s2).2 (fun a b h1 h2=>ha a b (List.mem_cons_of_mem _ h1) (List.mem_cons_of_mem _ h2))]
theorem KQ {ks:List (List UInt8)}(hn:ks.Nodup) {a b:Nat}(ha:a<ks.length) (hb:b<ks.length) (h1:jk ks a b) (h2:jk ks b a):a=b:=by
 have e:ks.getD a []=ks.getD b []:=by
  rcases Jf (ks.getD a []) (ks.getD b []) with q | q | q
  ·unfold jk at h2;rw[q] at h2;cases h2
  ·exact q
  ·unfold jk at h1;rw[q] at h1;cases h1
 have d1:ks[a]?=ks[b]?:=by
  have e1:ks.getD a []=ks[a]:=by simp[List.getD_eq_getElem?_getD,ha]
  have e2:ks.getD b []=ks[b]:=by simp[List.getD_eq_getElem?_getD,hb]
  rw[List.getElem?_eq_getElem ha,List.getElem?_eq_getElem hb,←e1,←e2,e]
 have d2:ks[a]=ks[b]:=by rw[List.getElem?_eq_getElem ha,List.getElem?_eq_getElem hb] at d1;exact Option.some.inj d1
 have hnd:=List.pairwise_iff_getElem.1 hn;rcases Nat.lt_trichotomy a b with q | q | q
 ·exact (hnd a b ha hb q d2).elim
 ·exact q
 ·exact (hnd b a hb ha q d2.symm).elim
set_option maxHeartbeats 1000000 in
theorem HT (w:Nat) (li:Bool) (out:List UInt8) (c:cV) (t:List UInt8) (K V:IV) (ks:List (List UInt8)) (n:Nat) (hn:n≤1000000) (hV:dW.ev .ay [V]=some (.int .i64 (n:Int))) (hK:mU K ks) (hV2:V.refs=some 0) (hkn:ks.length=n) (hnd:ks.Nodup) (m:IM) (hm:m.get w=gZ true li out c) :
  cw (.f 163) [.pB w 0,.agg [.int .i64 5,.str t,K,V]] m=some (.sl (dj (uy ks n)) n,m):=by
 have hml:aH=1099511627776:=rfl;have hw:=zD hm;have hKs:ks≠[]→K=.sl (ks.map .str) ks.length:=by
  intro hne;rcases hK with ⟨_,h⟩ | h
  ·exact (hne h).elim
  ·exact h
 have g1:(bZ m (.cells [.int .i64 5,.str t,K,V] [.any,.any,.any,.any])).get m.size=.cells [.int .i64 5,.str t,K,V] [.any,.any,.any,.any]:=gW _ _;generalize hM:bZ m (.cells [.int .i64 5,.str t,K,V] [.any,.any,.any,.any])=M at *;have hMs:M.size=m.size+1:=by rw[←hM,jA]
 have hL:=TT w m.size M.size n hn (bZ M (.cells (List.replicate n (.int .i64 0)) (List.replicate n .any))) n 0 (by omega) (by rw[jA];omega);rw[fo,fo,DD] at hL;have hA:decide ((0:Int)≤(n:Int)∧(n:Int)≤(n:Int)∧(n:Int)*8≤(aH:Int)∧(n:Int)≤(aH:Int))=true:=by rw[decide_eq_true_eq,hml];omega
 generalize hM1:bZ M (.cells (dj (List.range n)) (List.replicate n .any))=M1 at *;have hM1s:M1.size=m.size+2:=by rw[←hM1,jA,hMs]
 have hq:M1.get w=gZ true li out c:=by rw[←hM1,gJ (by omega),←hM,gJ hw,hm]
 have hq2:M1.get m.size=.cells [.int .i64 5,.str t,K,V] [.any,.any,.any,.any]:=by rw[←hM1,gJ (by omega),g1]
 have hq3:M1.get M.size=.cells (dj (List.range n)) (List.replicate n .any):=by rw[←hM1,gW]
 have hC:oX w m.size 0 (.sB M.size 0 n 1) M1=some (.normal,[.pB m.size 0,.sB M.size 0 n 1,.bool false],[],M1):=by simp only[oX,go_sem,Ld hq,f8 hq2,Bool.not_true,Bool.false_eq_true,if_false];rw[dD (v:=.int .i64 5) rfl];simp only[go_sem];rfl
 have hlen:dW.ev .ay [.sB M.size 0 n 1]=some (.int .i64 (n:Int)):=by simp[dW.ev]
 have hM2:(bZ M1 (.cells (List.replicate n (.int .i64 0)) (List.replicate n .any))).size=m.size+3:=by rw[jA,hM1s]
 have hsrc:∀Kk:List IV→Nat→Option (IV×IM),tu (bZ M1 (.cells (List.replicate n (.int .i64 0)) (List.replicate n .any))) 1 (.sB M.size 0 n 1) Kk=Kk (dj (List.range n)) n:=by
  intro Kk;have e:(bZ M1 (.cells (List.replicate n (.int .i64 0)) (List.replicate n .any))).get M.size=.cells (dj (List.range n)) (List.replicate n .any):=by rw[gJ (by omega),hq3]
  have hcut:cut (dj (List.range n)) 0 (n*1)=some (dj (List.range n)):=by unfold cut;rw[if_pos (by simp[dj]),List.drop_zero,List.take_of_length_le (by simp[dj])]
  simp only[tu,dG,bu,e,hcut,if_true]
 have hcp:∀Kk:Nat→IM→Option (IV×IM),Uc (bZ M1 (.cells (List.replicate n (.int .i64 0)) (List.replicate n .any))) (.sB M1.size 0 n 1) 1 (dj (List.range n)) n Kk=Kk n (bZ M1 (.cells (dj (List.range n)) (List.replicate n .any))):=by
  intro Kk;have hl1:(dj (List.range n)).length=n:=by simp[dj]
  have hs:=kE (gW M1 (.cells (List.replicate n (.int .i64 0)) (List.replicate n .any))) (vs:=dj (List.range n)) (c:=.any) (off:=0) (r:=0) (by
   have:∀l:List Nat,aC (dj l)=some 0:=by
    intro l
    induction l with
    |nil=>rfl
    |cons x r ih =>have ih':aC (r.map fun (i:Nat)=>IV.int .i64 (i:Int))=some 0:=ih;show aC (IV.int .i64 (x:Int)::r.map fun (i:Nat)=>IV.int .i64 (i:Int))=some 0;rw[aC,ih'];rfl
   exact this _) (Nat.zero_le _) (by rw[hl1];simp) (fun mm=>Kk n mm)
  have e1:over (List.replicate n (IV.int .i64 0)) 0 (dj (List.range n))=dj (List.range n):=by unfold over;rw[hl1];simp
  have e2:bh (List.replicate n cV.any) 0 (dj (List.range n)).length .any=List.replicate n .any:=by unfold bh;rw[hl1];simp
  rw[e1,e2,fo] at hs;rw[←hs];unfold Uc lN;simp only[Nat.min_self,Nat.mul_one];rw[List.take_of_length_le (by rw[hl1];exact Nat.le_refl _),hl1]
 obtain⟨P,hP⟩:∃P,P=bZ M1 (.cells (dj (List.range n)) (List.replicate n .any)):=⟨_,rfl⟩
 rw[←hP] at hcp;have hPs:P.size=m.size+3:=by rw[hP,jA,hM1s]
 have hPd:∀Z:List Nat,Z.length=n→dM P M1.size Z=bZ M1 (.cells (dj Z) (List.replicate n .any)):=by intro Z hZ;unfold dM;rw[hP,fo,hZ]
 have hvb:ks≠[]→P.get m.size=.cells [.int .i64 5,.str t,.sl (ks.map .str) ks.length,V] [.any,.any,.any,.any]:=by intro hne;rw[hP,gJ (by omega),hq2,hKs hne]
 obtain⟨Z,z1,z2,z3⟩:=Oo P M1.size m.size ks 5 t V (by omega) (by omega) hvb n hn (List.range n) (by simp) (fun y hy=>by rw[hkn];simpa using hy);have hZn:Z.length=n:=by rw[z1.length_eq];simp
 have hZo:Z=uy ks n:=CZ (z1.trans (te ks n).symm) z2 (tV ks n) (fun a b ha hb h1 h2=>KQ hnd (by rw[hkn];simpa using z1.mem_iff.1 ha) (by rw[hkn];simpa using z1.mem_iff.1 hb) h1 h2);rw[hPd _ (by simp),←hP,hPd _ hZn] at z3;have h168:=fun K2:IV→IM→Option (IV×IM)=>ae z3 (by rfl) K2;have h168':∀K2:IV→IM→Option (IV×IM),an cw (.f 168) [.sB M1.size 0 n 1,.func 169 [] [.pB m.size 0]] [] P K2=K2 (.db []) (bZ M1 (.cells (dj Z) (List.replicate n .any))):=h168;have hS:settle m (bZ M1 (.cells (dj Z) (List.replicate n .any))) (.sB M1.size 0 n 1)=some (.sl (dj Z) n,m):=by
  refine zu (cp:=List.replicate n .any) ?_ ?_ (tO _) (by simp[dj,hZn]) (by omega) (gW _ _)
  ·rw[←hM1,←hM];simp[bZ,IM.size]
  ·rw[←hM1,←hM];rfl
 have hL':sn w m.size 0 (.sB M.size 0 n 1) (n:Int) 0 (bZ M (.cells (List.replicate n (.int .i64 0)) (List.replicate n .any)))=_:=hL;have hdec:decide ((dj (List.range n)).length=n*1)=true:=by simp[dj]
 apply yC;simp only[QJ,hM,af hK.refs,af hV2,f8 g1];rw[dD (v:=V) rfl];simp only[au hV,go_sem,hA,if_true,Gz,xY,List.length_replicate,Int.toNat_natCast];simp only[hL',go_sem,if_true,hC,Bool.false_eq_true,if_false,au hlen,hA,Int.toNat_natCast,hsrc,hdec,hcp,h168',hS];rw[hZo]
theorem HS:Ha true:=by
 intro w li out c k t K V ks n m hn hV hK hV2 hk hm;by_cases h:k=5
 ·subst h;obtain⟨h1,h2⟩:=hk rfl;exact HT w li out c t K V ks n hn hV hK hV2 h1 h2 m hm
 ·have e:(true&&decide (k=5))=false:=by simp[h]
  have:=CX w true li out c k t K V n hn hV hK.refs hV2 m hm e;unfold ib;rw[e];exact this
theorem rL {α β:Type}{f:α→Option β}:∀{l:List α}{r:List β},l.mapM f=some r→r.length=l.length∧∀(i:Nat) (h:i<l.length) (h':i<r.length),f l[i]=some r[i]
 |[],r,h=>by simp at h;subst h;exact⟨rfl,fun i h=>by simp at h⟩
 |a::l,r,h=>by
  obtain⟨b,bs,h1,h2,rfl⟩:=mf h;obtain⟨e1,e2⟩:=rL h2;refine⟨by simp[e1],fun i hi hi'=>?_⟩
  cases i with
  |zero=>exact h1
  |succ i=>simpa using e2 i (by simpa using hi) (by simpa using hi')
theorem wm {w:World}{base n:Nat}{a:Addr}{cs:List Value}(h:w.cells? base a n=some cs):cs.length=n∧∀(i:Nat) (h:i<cs.length),w.cell? (a.add i)=some cs[i]:=by
 unfold World.cells? at h;split at h
 ·obtain⟨e1,e2⟩:=rL h;rw[List.length_range] at e1;refine⟨e1,fun i hi=>?_⟩;have:=e2 i (by simpa[e1] using hi) hi;simpa using this
 ·cases h
theorem y5 {w:World}{a:Addr}{v:Value}(h:w.cell? a=some v):a.spot=none:=by
 unfold World.cell? at h;split at h
 ·split at h
  ·cases h
  ·rename_i g;simpa using g
 ·cases h
section
variable {H:Type}{enc:TypeId×Value→H}{P:Program}{w:World}{base:Nat}{held:Bool}
def nN (P:Program) (t:TypeId) (d:DataW H):Prop:=∀n,n∈d.weights P t→n≤reachBytes
theorem xl {e:TypeId}{n:Nat}:∀{l:List (DataW H)}{d:DataW H},d∈l→n∈d.weights P e→n∈DataW.weightsAll P e l
 |a::l,d,h,hn=>by
  unfold DataW.weightsAll;rcases List.mem_cons.1 h with rfl | h
  ·exact List.mem_append_left _ hn
  ·exact List.mem_append_right _ (xl h hn)
theorem zi {n:Nat}:∀{ts:List TypeId}{l:List (DataW H)}(i:Nat) (h:i<ts.length) (h':i<l.length),n∈(l[i]).weights P ts[i]→n∈DataW.weightsEach P ts l
 |t::ts,a::l,0,_,_,hn=>by
  unfold DataW.weightsEach;exact List.mem_append_left _ hn
 |t::ts,a::l,i+1,h,h',hn=>by
  unfold DataW.weightsEach;exact List.mem_append_right _ (zi i (by simpa using h) (by simpa using h') (by simpa using hn))
theorem Dy {fuel:Nat}{t:TypeId}(ht:P.underlying t=some .string) {cs:List Value}{x:DataW H×List MemPlace}(h:DataW.trod enc P w base (fun _=>true) held fuel t cs=some x) (hd:nN P t x.1):∃s:List UInt8,cs=[.string ⟨⟨s⟩⟩]∧s.length≤reachBytes:=by
 cases fuel with
 |zero=>simp[DataW.trod] at h
 |succ fuel =>
  simp only[DataW.trod,ht] at h;split at h<;>simp_all
  rename_i s;obtain⟨⟨l⟩⟩:=s;obtain⟨-,rfl⟩:=h;exact⟨l,rfl,hd _ (by unfold DataW.weights;exact List.mem_cons_self)⟩
theorem GG {fuel:Nat}{t e:TypeId}(ht:P.underlying t=some (.slice e)) (hb:1≤P.bytesOf e) {cs:List Value}{x:DataW H×List MemPlace}(h:DataW.trod enc P w base (fun _=>true) held (fuel+1) t cs=some x) (hd:nN P t x.1) :
  cs=[.slice none 0 0]∨∃(a:Addr) (len cap:Nat),cs=[.slice (some a) len cap]∧len≤cap∧cap≤reachBytes ∧
   ∀i,i<cap→∃c y,w.cells? base (a.add (i*P.cellsOf e)) (P.cellsOf e)=some c∧DataW.trod enc P w base (fun _=>true) held fuel e c=some y∧nN P e y.1:=by
 unfold DataW.trod at h;rw[ht] at h;split at h
 all_goals first
  |(rename_i q1 q2;simp at q1;done)
  |(rename_i q1;simp at q1;done)
  |skip
 ·exact .inl rfl
 ·rename_i e' a len cap q;have he:e'=e:=by simpa using q.symm
  subst he;simp only[if_true] at h;split at h
  ·rename_i g;rw[Option.bind_eq_some_iff] at h;obtain⟨xs,h1,h⟩:=h;rw[Option.map_eq_some_iff] at h;obtain⟨ys,h2,hx⟩:=h;obtain⟨l1,f1⟩:=rL h1;obtain⟨l2,f2⟩:=rL h2;rw[List.length_range] at l1 l2;have hd1:∀n,n∈((xs.map (·.1)).length+(ys.map (·.1)).length)*P.bytesOf e'::(DataW.weightsAll P e' (xs.map (·.1))++DataW.weightsAll P e' (ys.map (·.1)))→n≤reachBytes:=by intro n hn;apply hd n;rw[←hx];unfold DataW.weights;simp only[ht];exact hn
   have hcap:=hd1 _ List.mem_cons_self;rw[List.length_map,List.length_map,l1,l2,show len+(cap-len)=cap by omega] at hcap;refine .inr ⟨a,len,cap,rfl,g.2.1,Nat.le_trans (by simpa using Nat.mul_le_mul_left cap hb) hcap,fun i hi=>?_⟩;by_cases hlt:i<len
   ·have:=f1 i (by simpa using hlt) (by omega);rw[List.getElem_range,Option.bind_eq_some_iff] at this;obtain⟨c,c1,c2⟩:=this;exact⟨c,_,c1,c2,fun n hn=>hd1 n (List.mem_cons_of_mem _ (List.mem_append_left _ (xl (List.mem_map.2 ⟨_,List.getElem_mem _,rfl⟩) hn)))⟩
   ·have:=f2 (i-len) (by simp;omega) (by omega);rw[List.getElem_range,Option.bind_eq_some_iff] at this;obtain⟨c,c1,c2⟩:=this;rw[show len+(i-len)=i by omega] at c1;exact⟨c,_,c1,c2,fun n hn=>hd1 n (List.mem_cons_of_mem _ (List.mem_append_right _ (xl (List.mem_map.2 ⟨_,List.getElem_mem _,rfl⟩) hn)))⟩
  ·cases h
 ·cases h
end
section
variable {H:Type}{enc:TypeId×Value→H}{P:Program}{w:World}{base:Nat}{held:Bool}
theorem trod_struct {fuel:Nat}{t:TypeId}{fs:Array Field}(ht:P.underlying t=some (.struct fs)) {cs:List Value}{x:DataW H×List MemPlace}(h:DataW.trod enc P w base (fun _=>true) held (fuel+1) t cs=some x) (hd:nN P t x.1) :
  cs.length=P.cellsOf t∧∀f,f∈fs.toList→∃y,DataW.trod enc P w base (fun _=>true) held fuel f.type ((cs.drop f.offset).take (P.cellsOf f.type))=some y∧nN P f.type y.1:=by
 unfold DataW.trod at h;rw[ht] at h;split at h
 all_goals first
  |(rename_i q1 q2;simp at q1;done)
  |(rename_i q1;simp at q1;done)
  |skip
 ·rename_i fs' q;have he:fs'=fs:=by simpa using q.symm
  subst he;split at h
  ·rename_i g;rw[Option.map_eq_some_iff] at h;obtain⟨xs,h1,hx⟩:=h;obtain⟨l1,f1⟩:=rL h1;have hd1:∀n,n∈DataW.weightsEach P (fs'.toList.map (·.type)) (xs.map (·.1))→n≤reachBytes:=by intro n hn;apply hd n;rw[←hx];unfold DataW.weights;simp only[ht];exact hn
   refine⟨g,fun f hf=>?_⟩;obtain⟨i,hi,rfl⟩:=List.getElem_of_mem hf;exact⟨_,f1 i hi (by omega),fun n hn=>hd1 n (zi i (by simpa using hi) (by simp[l1];simpa using hi) (by simpa using hn))⟩
  ·cases h
 all_goals first
  |(exfalso;rename_i q _ _ _ _ _ _ _ _ _ _ _ _ _ _ _ _ _ _ _;exact q fs rfl)
  |(exfalso;simp_all;done)
  |(cases h;done)
theorem trod_int {fuel:Nat}{t:TypeId}{k:IntKind}(ht:P.underlying t=some (.int k)) {cs:List Value}{x:DataW H×List MemPlace}(h:DataW.trod enc P w base (fun _=>true) held fuel t cs=some x):∃n:Int,cs=[.int k n]:=by
 cases fuel with
 |zero=>simp[DataW.trod] at h
 |succ fuel =>simp only[DataW.trod,ht] at h;split at h<;>simp_all
theorem Mf {t e:TypeId}(ht:P.underlying t=some (.slice e)) (he:P.underlying e=some .string) (hce:P.cellsOf e=1) (hb:1≤P.bytesOf e) {fuel:Nat}{cs:List Value}{x:DataW H×List MemPlace}(h:DataW.trod enc P w base (fun _=>true) held fuel t cs=some x) (hd:nN P t x.1) :
  ∃(ks:List (List UInt8)) (K:IV) (r:Value),cs=[r]∧mU K ks∧ks.length≤reachBytes∧(∀s,s∈ks→s.length≤reachBytes)∧∀G:Gh,(∀b o,G.dB b o=w.cell? ⟨b,o,none⟩)→VR G K r:=by
 have hml:reachBytes=140737488351232:=rfl
 cases fuel with
 |zero=>simp[DataW.trod] at h
 |succ fuel =>
  rcases GG ht hb h hd with rfl | ⟨a,len,cap,rfl,h1,h2,h3⟩
  ·exact⟨[],.aa,_,rfl,.inl ⟨rfl,rfl⟩,by simp,(by intro s hs;cases hs),fun _ _=>.aa⟩
  ·by_cases hc:cap=0
   ·subst hc;obtain rfl:len=0:=by omega
    exact⟨[],.sl [] 0,_,rfl,.inr rfl,by simp,(by intro s hs;cases hs),fun _ _=>.zv a⟩
   ·have key:∀i,i<cap→∃s:List UInt8,w.cell? (a.add i)=some (.string ⟨⟨s⟩⟩)∧s.length≤reachBytes:=by intro i hi;obtain⟨c,y,c1,c2,c3⟩:=h3 i hi;rw[hce,Nat.mul_one] at c1;obtain⟨s,rfl,hs⟩:=Dy he c2 c3;obtain⟨_,g⟩:=wm c1;have:=g 0 (by simp);exact⟨s,by simpa[Addr.add] using this,hs⟩
    obtain⟨s0,hs0,_⟩:=key 0 (by omega);have hsp:=y5 hs0;obtain⟨b,o,sp⟩:=a;have hsp:sp=none:=by simpa[Addr.add] using hsp
    subst hsp;have build:∀n,n≤cap→∃ks:List (List UInt8),ks.length=n∧(∀s,s∈ks→s.length≤reachBytes)∧∀i (hi:i<ks.length),w.cell? ⟨b,o+i,none⟩=some (.string ⟨⟨ks[i]⟩⟩):=by
     intro n
     induction n with
     |zero=>intro _;exact⟨[],rfl,(by intro s hs;cases hs),(by intro i hi;simp at hi)⟩
     |succ n ih =>
      intro hn;obtain⟨ks,q1,q2,q3⟩:=ih (by omega);obtain⟨s,hs,hl⟩:=key n (by omega);rw[eQ] at hs;refine⟨ks++[s],by simp[q1],fun u hu=>?_,fun i hi=>?_⟩
      ·rcases List.mem_append.1 hu with hu | hu
       ·exact q2 u hu
       ·simp only[List.mem_cons,List.not_mem_nil,or_false] at hu;subst hu;exact hl
      ·by_cases g:i<ks.length
       ·rw[List.getElem_append_left g];exact q3 i g
       ·have:i=n:=by simp at hi;omega
        subst this;rw[List.getElem_append_right (by omega)];simpa using hs
    obtain⟨ks,q1,q2,q3⟩:=build len h1;refine⟨ks,.sl (ks.map .str) ks.length,_,rfl,.inr rfl,by omega,fun s hs=>by have:=q2 s hs;omega,?_⟩;rw[q1];intro G hG;refine VR.sl _ _ _ _ _ (fun i=>.string ⟨⟨ks.getD i []⟩⟩) (fun i hi=>?_) (fun i hi=>?_) h1
    ·rw[hG];have hi':i<ks.length:=by simpa using hi
     rw[q3 i hi'];simp[List.getD_eq_getElem?_getD,hi']
    ·have hi':i<ks.length:=by simpa using hi
     have e:ks.getD i []=ks[i]:=by simp[List.getD_eq_getElem?_getD,hi']
     rw[List.getElem_map,e];exact .str _
end
section
variable {H:Type}{enc:TypeId×Value→H}{P:Program}{w:World}{base:Nat}{held:Bool}
theorem Ox {tv ti ts tk tl:TypeId}{fs:Array Field}(hv:P.underlying tv=some (.struct fs)) (hcv:P.cellsOf tv=4) (hf:∀y:TypeId×Nat,y∈[(ti,0),(ts,1),(tk,2),(tl,3)]→∃f,f∈fs.toList∧f.type=y.1∧f.offset=y.2)
  (hti:P.underlying ti=some (.int .i64)) (hts:P.underlying ts=some .string) (htk:P.underlying tk=some (.slice ts)) (htl:P.underlying tl=some (.slice tv)) (c1:P.cellsOf ti=1) (c2:P.cellsOf ts=1) (c3:P.cellsOf tk=1) (c4:P.cellsOf tl=1) (b1:1≤P.bytesOf ts) (b2:1≤P.bytesOf tv) :
  ∀(fuel:Nat) (cs:List Value) (x:DataW H×List MemPlace),DataW.trod enc P w base (fun _=>true) held fuel tv cs=some x→nN P tv x.1 →
   ∃v c,ql v∧gh v c∧∀G:Gh,(∀b o,G.dB b o=w.cell? ⟨b,o,none⟩)→c9 G c cs:=by
 have hml:reachBytes=140737488351232:=rfl;intro fuel
 induction fuel using Nat.strongRecOn with
 |_ fuel ih =>
  intro cs x h hd
  cases fuel with
  |zero=>simp[DataW.trod] at h
  |succ fuel =>
   obtain⟨hl,hF⟩:=trod_struct hv h hd;rw[hcv] at hl;obtain⟨r0,r1,r2,r3,rfl⟩:∃r0 r1 r2 r3,cs=[r0,r1,r2,r3]:=by
    match cs,hl with
    |[a,b,c,d],_=>exact⟨a,b,c,d,rfl⟩
   obtain⟨f0,m0,t0,o0⟩:=hf (ti,0) (by simp);obtain⟨f1,m1,t1,o1⟩:=hf (ts,1) (by simp);obtain⟨f2,m2,t2,o2⟩:=hf (tk,2) (by simp);obtain⟨f3,m3,t3,o3⟩:=hf (tl,3) (by simp);obtain⟨y0,e0,w0⟩:=hF f0 m0;obtain⟨y1,e1,w1⟩:=hF f1 m1;obtain⟨y2,e2,w2⟩:=hF f2 m2;obtain⟨y3,e3,w3⟩:=hF f3 m3;simp only at t0 t1 t2 t3 o0 o1 o2 o3;rw[t0] at w0;rw[t0,o0,c1] at e0;rw[t1] at w1;rw[t1,o1,c2] at e1;rw[t2] at w2;rw[t2,o2,c3] at e2;rw[t3] at w3;rw[t3,o3,c4] at e3;simp only[List.drop_zero,List.drop_succ_cons,List.take_succ_cons,List.take_zero] at e0 e1 e2 e3;obtain⟨n,en⟩:=trod_int hti e0;obtain⟨t,et,ht⟩:=Dy hts e1 w1;obtain⟨ks,K,r2',er2,hK,hks,hks2,hKr⟩:=Mf htk hts c2 b1 e2 w2;simp only[List.cons.injEq,and_true] at en et er2;subst en et er2;have items:∃(vs:List dL) (V:IV),mL V vs∧vs.length≤reachBytes∧(∀v,v∈vs→ql v)∧∀G:Gh,(∀b o,G.dB b o=w.cell? ⟨b,o,none⟩)→VR G V r3:=by
    cases fuel with
    |zero=>simp[DataW.trod] at e3
    |succ f =>
     rcases GG htl b2 e3 w3 with q | ⟨a,len,cap,q,h1,h2,h3⟩
     ·simp only[List.cons.injEq,and_true] at q;subst q;exact⟨[],.aa,.nil,Nat.zero_le _,(by intro v hv;cases hv),fun _ _=>.aa⟩
     ·simp only[List.cons.injEq,and_true] at q;subst q;by_cases hc:cap=0
      ·subst hc;obtain rfl:len=0:=by omega
       exact⟨[],.sl [] 0,.sl .nil rfl,Nat.zero_le _,(by intro v hv;cases hv),fun _ _=>.zv a⟩
      ·rw[hcv] at h3;obtain⟨c0,z0,g0,_,_⟩:=h3 0 (by omega);obtain⟨l0,k0⟩:=wm g0;have hs0:=k0 0 (by omega);have hsp:=y5 hs0;obtain⟨b,o,sp⟩:=a;have hsp:sp=none:=by simpa[Addr.add] using hsp
       subst hsp;have build:∀n,n≤cap→∃(vs:List dL) (row:List IV) (rs:List Value),vs.length=n∧nX vs row∧(∀v,v∈vs→ql v)∧rs.length=4*n∧(∀i (hi:i<rs.length),w.cell? ⟨b,o+i,none⟩=some rs[i])∧∀G:Gh,(∀b o,G.dB b o=w.cell? ⟨b,o,none⟩)→c9 G row rs:=by
        intro n
        induction n with
        |zero=>intro _;exact⟨[],[],[],rfl,.nil,(by intro v hv;cases hv),rfl,(by intro i hi;simp at hi),fun _ _=>c9.nil⟩
        |succ n ihn =>
         intro hn;obtain⟨vs,row,rs,q1,q2,q3,q4,q5,q6⟩:=ihn (by omega);obtain⟨c,z,g1,g2,g3⟩:=h3 n (by omega);obtain⟨v,cv,a1,a2,a3⟩:=ih f (by omega) c z g2 g3;obtain⟨l1,k1⟩:=wm g1;refine⟨vs++[v],row++cv,rs++c,by simp[q1],q2.app a2,fun u hu=>?_,by rw[List.length_append,q4,l1];omega,fun i hi=>?_,fun G hG=>(q6 G hG).append (a3 G hG)⟩
         ·rcases List.mem_append.1 hu with hu | hu
          ·exact q3 u hu
          ·simp only[List.mem_cons,List.not_mem_nil,or_false] at hu;subst hu;exact a1
         ·by_cases g:i<rs.length
          ·rw[List.getElem_append_left g];exact q5 i g
          ·rw[List.length_append] at hi;have:=k1 (i-rs.length) (by omega);rw[List.getElem_append_right (by omega),←this,eQ,eQ];congr 2;omega
       obtain⟨vs,row,rs,q1,q2,q3,q4,q5,q6⟩:=build len h1;refine⟨vs,.sl row len,.sl q2 q1.symm,by omega,q3,fun G hG=>?_⟩;have hrs:=q6 G hG;have hrp:=q6 G.pl (fun b o=>hG b o);refine VR.sl _ _ _ _ _ (fun i=>rs.getD i (.bool false)) (fun i hi=>?_) (fun i hi=>?_) h1
       ·have hi':i<rs.length:=by rw[hrs.1];exact hi
        rw[hG,q5 i hi'];simp[List.getD_eq_getElem?_getD,hi']
       ·have hi':i<rs.length:=by rw[hrs.1];exact hi
        have e:rs.getD i (.bool false)=rs[i]:=by simp[List.getD_eq_getElem?_getD,hi']
        rw[e];exact hrp.2 i hi hi'
   obtain⟨vs,V,hV,hvl,hva,hVr⟩:=items;refine⟨.mk n t ks vs,[.int .i64 n,.str t,K,V],.mk (by omega) (by omega) (fun s hs=>by have:=hks2 s hs;omega) (by omega) hva,.mk hK hV,fun G hG=>?_⟩;exact c9.cons (.int _ _) (c9.cons (.str _) (c9.cons (hKr G hG) (c9.cons (hVr G hG) c9.nil)))
end
mutual
def H5:dL→Nat
 |.mk _ _ _ vs=>1+Bz vs
def Bz:List dL→Nat
 |[]=>0
 |v::r=>H5 v+Bz r
end
theorem Br:∀vs:List dL,Bz vs=(vs.map H5).sum
 |[]=>by unfold Bz;rfl
 |v::r=>by unfold Bz;rw[Br r];rfl
theorem Bl (so:Bool) (k:Int) (ks:List (List UInt8)) (vs:List dL):((ib so k ks vs.length).map fun i=>(lq so vs).getD i default).Perm (lq so vs):=by have h:=(pG so k ks vs.length).map fun i=>(lq so vs).getD i default;rw[←kP so vs,mG] at h;rw[←kP so vs];exact h
theorem Bj (so:Bool) (k:Int) (ks:List (List UInt8)) (n:Nat) (hn:ks.length=n):((ib so k ks n).map fun i=>ks.getD i []).Perm ks:=by have h:=(pG so k ks n).map fun i=>ks.getD i [];subst hn;rw[mG] at h;exact h
mutual
theorem L8 (so:Bool):∀v:dL,H5 (qb so v)=H5 v
 |.mk k t ks vs=>by
  have h:=((Bl so k ks vs).map H5).sum_nat;have h2:=Gx so vs;rw[Br] at h2;unfold qb H5;rw[Br,h,h2]
theorem Gx (so:Bool):∀vs:List dL,Bz (lq so vs)=Bz vs
 |[]=>by unfold lq;rfl
 |v::vs=>by
  unfold lq Bz;rw[L8 so v,Gx so vs]
end
mutual
theorem Aw:∀(v:dL) (lvl left:Int),(gB v lvl left).1=0→(gB v lvl left).2=left-H5 v
 |.mk k t ks vs,lvl,left,h=>by
  obtain⟨h0,_,_,h3,h4⟩:=mC h;have:=FO vs (lvl+1) (left-1) h3;rw[h4,this];unfold H5;omega
theorem FO:∀(vs:List dL) (lvl left:Int),(gU vs lvl left).1=0→(gU vs lvl left).2=left-Bz vs
 |[],lvl,left,_=>by unfold gU Bz;simp
 |v::vs,lvl,left,h=>by
  obtain⟨h1,h2,h3⟩:=rA h;have e1:=Aw v lvl left h1;have e2:=FO vs lvl _ h2;have hz:Bz (v::vs)=H5 v+Bz vs:=by rw[Bz]
  rw[h3,e2,e1,hz];omega
end
theorem Js:∀(d:Nat) (v:dL) (lvl left:Int),H0 d lvl v→(H5 v:Int)≤left→(gB v lvl left).1=0
 |0,v,lvl,left,h,_=>by cases h
 |d+1,.mk k t ks vs,lvl,left,h,hl=>by
  cases h with
  |mk hlv ho hall =>
   have hz:H5 (.mk k t ks vs)=1+Bz vs:=by unfold H5;rfl
   have key:∀(l:List dL) (lf:Int),(∀v,v∈l→H0 d (lvl+1) v)→(Bz l:Int)≤lf→(gU l (lvl+1) lf).1=0:=by
    intro l
    induction l with
    |nil=>intro lf _ _;unfold gU;rfl
    |cons y r ih =>
     intro lf hy hf;have hzr:Bz (y::r)=H5 y+Bz r:=by rw[Bz]
     have h1:=Js d y (lvl+1) lf (hy y List.mem_cons_self) (by omega);have h2:=Aw y _ _ h1;unfold gU;rw[if_neg (by omega)];exact ih _ (fun v hv=>hy v (List.mem_cons_of_mem _ hv)) (by omega)
   unfold gB;rw[if_neg (by omega),if_neg (by omega),if_neg (by omega)];exact key vs _ hall (by omega)
theorem qu:∀(l seen:List (List UInt8)),l.Nodup→(∀x,x∈l→x∉seen)→pR seen l=false
 |[],_,_,_=>rfl
 |x::r,seen,h,h2=>by
  obtain⟨n1,n2⟩:=List.nodup_cons.1 h;unfold pR;rw[Bool.or_eq_false_iff,decide_eq_false_iff_not];refine⟨h2 x List.mem_cons_self,qu r _ n2 (fun y hy hs=>?_)⟩;rcases List.mem_append.1 hs with hs | hs
  ·exact h2 y (List.mem_cons_of_mem _ hy) hs
  ·simp only[List.mem_cons,List.not_mem_nil,or_false] at hs;subst hs;exact n1 hy
theorem Lz {k:Int}{t:List UInt8}{ks ks':List (List UInt8)}{n:Nat}(h:oc k t ks n=0) (hp:ks'.Perm ks):oc k t ks' n=0:=by
 obtain⟨o0,o1,o2,o3,o4,o5,o6,_⟩:=jZ h;have hl:=hp.length_eq;unfold oc at h ⊢;have ef:f7 k t ks' n=f7 k t ks n:=by
  unfold f7;have e1:(ks'.any fun s=>!Ic s)=ks.any fun s=>!Ic s:=by rw[Bool.eq_iff_iff,List.any_eq_true,List.any_eq_true];exact⟨fun⟨x,hx,q⟩=>⟨x,hp.mem_iff.1 hx,q⟩,fun⟨x,hx,q⟩=>⟨x,hp.mem_iff.2 hx,q⟩⟩
  have e2:decide (ks'=[])=decide (ks=[]):=by rw[decide_eq_decide];exact⟨fun e=>by subst e;exact hp.symm.eq_nil,fun e=>by subst e;exact hp.eq_nil⟩
  rw[e1,e2]
 have el:ni k t ks'=ni k t ks:=by
  unfold ni;have e1:(ks'.any fun s=>decide (1000<s.length))=ks.any fun s=>decide (1000<s.length):=by rw[Bool.eq_iff_iff,List.any_eq_true,List.any_eq_true];exact⟨fun⟨x,hx,q⟩=>⟨x,hp.mem_iff.1 hx,q⟩,fun⟨x,hx,q⟩=>⟨x,hp.mem_iff.2 hx,q⟩⟩
  rw[e1]
 rw[ef,el,hl];have hd:pR [] ks'=true↔pR [] ks=true:=by
  by_cases g:k=5
  ·have n1:=(o5 g).2;have n2:ks'.Nodup:=hp.nodup_iff.2 n1;rw[qu ks [] n1 (fun _ _ q=>by cases q),qu ks' [] n2 (fun _ _ q=>by cases q)]
  ·have:=o6 g;subst this;have:=hp.eq_nil;subst this;exact Iff.rfl
 simp only[hd];exact h
theorem Bk (so:Bool):∀(d:Nat) (v:dL) (lv:Int),H0 d lv v→H0 d lv (qb so v)
 |0,v,lv,h=>by cases h
 |d+1,.mk k t ks vs,lv,h=>by
  cases h with
  |mk hlv ho hall =>
   obtain⟨_,_,_,_,_,o5,o6,_⟩:=jZ ho;have hp:(if k=5 then (ib so k ks vs.length).map (fun i=>ks.getD i []) else []).Perm ks:=by
    by_cases g:k=5
    ·rw[if_pos g];exact Bj so k ks vs.length (o5 g).1
    ·rw[if_neg g,o6 g]
   have hv:=Bl so k ks vs;unfold qb;refine .mk hlv ?_ (fun v hv'=>?_)
   ·rw[hv.length_eq,kP];exact Lz ho hp
   ·have hm:=hv.mem_iff.1 hv';obtain⟨i,hi,rfl⟩:=List.getElem_of_mem hm;have hi':i<vs.length:=by rwa [kP] at hi
    have e:=lM so vs i hi';rw[List.getD_eq_getElem?_getD,List.getElem?_eq_getElem hi] at e;simp only[Option.getD_some] at e;rw[e];exact Bk so d _ _ (hall _ (List.getElem_mem hi'))
theorem zq (so:Bool) (v:dL) (h:ia v=0):ia (qb so v)=0:=by have hr:=rB 41 v 1 2000 (by omega) h (by omega);have hd:=mY v 1 2000 (by omega) h;have hz:=Aw v 1 2000 h;exact Js 41 _ 1 2000 (Bk so 41 v 1 hr) (by rw[L8];omega)
theorem oO (so li:Bool) (v:dL) (h:ia v=0):∃n r,lr (gP so li v 0) n 1 0=some r∧oM (gP so li v 0) r=(qb so v,0,0):=by
 have hck:=rB 41 v 1 2000 (by omega) h (by omega);have hc2:=zq so v h;generalize hp:gP so li v 0=p at *;have:=Mu so li p 41 v 0 1 [] [] 0 (3*p.length+1) hck (fun _ h=>by cases h) (by rw[hp];simp) (fun c hc=>by cases hc) (by omega) (by omega);rw[hp] at this;refine⟨_,_,this,?_⟩;have hb:=jg (s:=p) (a:=0+([]:List UInt8).length+p.length) (by simp);have hl:0+([]:List UInt8).length+p.length=p.length:=by simp
 simp only[oM];rw[if_neg (by omega),if_neg (by omega)]
theorem Az (n k:Nat) (h:bT n=true) (c:UInt8) (t:List UInt8) (he:fV n=c::t) (hw:dH c.toNat=k) (hk:t.length+1=k)
  (hd:qq (c::t) (k-1) 1 (if 1<k then c.toNat%(256/2^(k+1)) else c.toNat)=some n):fP (fV n)=(n,(fV n).length):=by
 have hl:(fV n).length=k:=by rw[he,List.length_cons,hk]
 rw[hl];have h0:¬(k=0∨(c::t).length<k):=by rw[List.length_cons];omega
 have ht:fV n=(c::t).take k:=by rw[he,List.take_of_length_le (by rw[List.length_cons];omega)]
 rw[he];simp only[fP,hw];rw[if_neg h0,hd];simp only;rw[if_pos ⟨h,ht⟩]
set_option maxRecDepth 20000 in
theorem Nr (n:Nat) (h:bT n=true):fP (fV n)=(n,(fV n).length):=by
 have hb:=h;simp only[bT,Bool.and_eq_true,Bool.or_eq_true,decide_eq_true_eq] at hb;have u:∀x:Nat,x<256→(UInt8.ofNat x).toNat=x:=fun x hx=>by rw[UInt8.toNat_ofNat'];omega
 by_cases h1:n<128
 ·have he:fV n=[UInt8.ofNat n]:=by unfold fV;rw[if_pos h1]
  refine Az n 1 h _ _ he ?_ rfl ?_
  ·rw[u n (by omega)];unfold dH;rw[if_pos h1]
  ·rw[u n (by omega)];simp[qq]
 ·by_cases h2:n<2048
  ·have he:fV n=[UInt8.ofNat (192+n/64),UInt8.ofNat (128+n%64)]:=by unfold fV;rw[if_neg h1,if_pos h2]
   have ha:=u (192+n/64) (by omega);have hb:=u (128+n%64) (by omega);refine Az n 2 h _ _ he ?_ rfl ?_
   ·rw[ha];unfold dH;rw[if_neg (by omega),if_pos (by omega)]
   ·simp only[qq,List.getElem?_cons_succ,List.getElem?_cons_zero,ha,hb];rw[if_neg (by omega),if_pos (by omega)];congr 1;omega
  ·by_cases h3:n<65536
   ·have he:fV n=[UInt8.ofNat (224+n/4096),UInt8.ofNat (128+n/64%64),UInt8.ofNat (128+n%64)]:=by unfold fV;rw[if_neg h1,if_neg h2,if_pos h3]
    have ha:=u (224+n/4096) (by omega);have hb:=u (128+n/64%64) (by omega);have hc:=u (128+n%64) (by omega);refine Az n 3 h _ _ he ?_ rfl ?_
    ·rw[ha];unfold dH;rw[if_neg (by omega),if_neg (by omega),if_pos (by omega)]
    ·simp only[qq,List.getElem?_cons_succ,List.getElem?_cons_zero,ha,hb,hc];rw[if_neg (by omega),if_neg (by omega),if_pos (by omega)];congr 1;omega
   ·have he:fV n=[UInt8.ofNat (240+n/262144),UInt8.ofNat (128+n/4096%64),UInt8.ofNat (128+n/64%64),UInt8.ofNat (128+n%64)]:=by unfold fV;rw[if_neg h1,if_neg h2,if_neg h3]
    have ha:=u (240+n/262144) (by omega);have hb:=u (128+n/4096%64) (by omega);have hc:=u (128+n/64%64) (by omega);have hd:=u (128+n%64) (by omega);refine Az n 4 h _ _ he ?_ rfl ?_
    ·rw[ha];unfold dH;rw[if_neg (by omega),if_neg (by omega),if_neg (by omega),if_pos (by omega)]
    ·simp only[qq,List.getElem?_cons_succ,List.getElem?_cons_zero,ha,hb,hc,hd];rw[if_neg (by omega),if_neg (by omega),if_neg (by omega),if_pos (by omega)];congr 1;omega
theorem Hf (n:Nat) (h:bT n=true):fV n≠[]∧(aI (fV n)).2.1=true∧(aI (fV n)).2.2=n∧(aI (fV n)).1=(fV n).length:=by
 have hd:=Nr n h;have hne:fV n≠[]:=by
  unfold fV;split
  ·simp
  ·split
   ·simp
   ·split<;>simp
 have hl:(fV n).length≠0:=by rw[Ne,List.length_eq_zero_iff];exact hne
 obtain⟨h1,h2⟩:=yT (fV n) (by rw[hd];exact hl);rw[hd] at h2;refine⟨hne,h1,?_,h2⟩
 cases he:fV n with
 |nil=>exact absurd he hne
 |cons c t =>have:=sK c t;rw[←he,h1,hd,if_pos rfl] at this;have:=congrArg Prod.fst this;rw[←he];exact this.symm
def NC (c:UInt8):Bool:=fS c||decide (c=45)||decide (c=43)||decide (c=46)||decide (c=101)||decide (c=69)
theorem T4 {c:UInt8}(h:NC c=true):c.toNat<128:=by
 have key:∀n,n<256→NC (UInt8.ofNat n)=true→(UInt8.ofNat n).toNat<128:=by decide +kernel
 have:=key c.toNat c.toNat_lt;rw[UInt8.ofNat_toNat] at this;exact this h
theorem DX {c:UInt8}(h:fS c=true):NC c=true:=by unfold NC;rw[h];rfl
theorem yQ:∀{l:List UInt8},(∀c,c∈l→c.toNat<128)→jQ l=true
 |[],_=>rfl
 |c::r,h=>by
  unfold jQ;rw[yQ (fun x hx=>h x (List.mem_cons_of_mem _ hx))];simpa using h c List.mem_cons_self
theorem AB (s:List UInt8):∀(k a i:Nat),a≤i→i<lV s k a→∃c,s[i]?=some c∧fS c=true
 |0,a,i,h1,h2=>by rw[lV] at h2;omega
 |k+1,a,i,h1,h2=>by
  rw[lV] at h2
  cases hc:s[a]? with
  |none=>rw[hc] at h2;simp only at h2;omega
  |some c =>
   rw[hc] at h2;simp only at h2
   cases hd:fS c with
   |false=>rw[hd] at h2;simp only[Bool.false_eq_true,if_false] at h2;omega
   |true =>
    rw[hd] at h2;simp only[if_true] at h2;by_cases g:i=a
    ·subst g;exact⟨c,hc,hd⟩
    ·exact AB s k (a+1) i (by omega) h2
theorem UF {t:List UInt8}{a:Nat}(h:lV t (t.length+1) a≠a):a<yi t a∧∀i,a≤i→i<yi t a→∃c,t[i]?=some c∧fS c=true:=by
 unfold yi;have hg:=wC t (t.length+1) a;split
 ·rename_i q;exact⟨by omega,fun i h1 h2=>⟨48,by rw[show i=a by omega];exact q,by decide⟩⟩
 ·exact⟨by omega,fun i h1 h2=>AB t _ a i h1 h2⟩
theorem UG {t:List UInt8}{a:Nat}(h:(rP t a).2=true):(rP t a).1=a∨(a+1<(rP t a).1∧t[a]?=some 46∧∀i,a+1≤i→i<(rP t a).1→∃c,t[i]?=some c∧fS c=true):=by
 unfold rP at h ⊢;split at h
 ·rename_i q;rw[if_pos q];have hg:=wC t (t.length+1) (a+1);have h:lV t (t.length+1) (a+1)≠a+1:=by simpa using h
  exact .inr ⟨by simp only;omega,q,fun i h1 h2=>AB t _ _ i h1 h2⟩
 ·rename_i q;rw[if_neg q];exact .inl rfl
theorem UH {t:List UInt8}{a:Nat}(h:(ya t a).2=true):(ya t a).1=a∨(a+1<(ya t a).1∧(∀i,a≤i→i<(ya t a).1→∃c,t[i]?=some c∧NC c=true)∧∃c,t[(ya t a).1-1]?=some c∧fS c=true):=by
 unfold ya at h ⊢;split at h
 ·rename_i q;rw[if_pos q];have hg:=wC t (t.length+1) (uw t (a+1));have h:lV t (t.length+1) (uw t (a+1))≠uw t (a+1):=by simpa using h
  have hd:=AB t (t.length+1) (uw t (a+1));have hB:(uw t (a+1)=a+1)∨(uw t (a+1)=a+2∧∃c,t[a+1]?=some c∧NC c=true):=by
   unfold uw;split
   ·rename_i w;refine .inr ⟨rfl,?_⟩;rcases w with w | w
    ·exact⟨_,w,by decide⟩
    ·exact⟨_,w,by decide⟩
   ·exact .inl rfl
  have hq:∃c,t[a]?=some c∧NC c=true:=by
   rcases q with q | q
   ·exact⟨_,q,by decide⟩
   ·exact⟨_,q,by decide⟩
  refine .inr ⟨by simp only;omega,fun i h1 h2=>?_,?_⟩
  ·simp only at h2;by_cases g:i=a
   ·subst g;exact hq
   ·by_cases g2:uw t (a+1)≤i
    ·obtain⟨c,c1,c2⟩:=hd i g2 h2;exact⟨c,c1,DX c2⟩
    ·rcases hB with hB | ⟨hB,hc⟩
     ·omega
     ·rw[show i=a+1 by omega];exact hc
  ·exact hd _ (by simp only;omega) (by simp only;omega)
 ·rename_i q;rw[if_neg q];exact .inl rfl
theorem N1 {t:List UInt8}(h:(gf t 0).2=true):(∀i,i<(gf t 0).1→∃c,t[i]?=some c∧NC c=true)∧0<(gf t 0).1∧∃c,t[(gf t 0).1-1]?=some c∧fS c=true:=by
 have h1:∀i,i<nm t 0→∃c,t[i]?=some c∧NC c=true:=by
  intro i hi;unfold nm at hi;split at hi
  ·rename_i q;exact⟨45,by rw[show i=0 by omega];exact q,by decide⟩
  ·omega
 unfold gf at h ⊢;by_cases g:lV t (t.length+1) (nm t 0)=nm t 0
 ·rw[if_pos g] at h;cases h
 ·rw[if_neg g] at h ⊢;obtain⟨d1,d2⟩:=UF g;have h2:∀i,i<yi t (nm t 0)→∃c,t[i]?=some c∧NC c=true:=by
   intro i hi;by_cases q:i<nm t 0
   ·exact h1 i q
   ·obtain⟨c,c1,c2⟩:=d2 i (by omega) hi;exact⟨c,c1,DX c2⟩
  have l2:=d2 (yi t (nm t 0)-1) (by omega) (by omega);generalize yi t (nm t 0)=p2 at *;by_cases g3:(rP t p2).2=true
  ·rw[if_pos g3] at h ⊢;have h3:(∀i,i<(rP t p2).1→∃c,t[i]?=some c∧NC c=true)∧0<(rP t p2).1∧∃c,t[(rP t p2).1-1]?=some c∧fS c=true:=by
    rcases UG g3 with e | ⟨e1,e2,e3⟩
    ·rw[e];exact⟨h2,by omega,l2⟩
    ·refine⟨fun i hi=>?_,by omega,e3 _ (by omega) (by omega)⟩;by_cases q:i<p2
     ·exact h2 i q
     ·by_cases q2:i=p2
      ·subst q2;exact⟨46,e2,by decide⟩
      ·obtain⟨c,c1,c2⟩:=e3 i (by omega) hi;exact⟨c,c1,DX c2⟩
   generalize (rP t p2).1=p3 at *;obtain⟨k1,k2,k3⟩:=h3;rcases UH h with e | ⟨e1,e2,e3⟩
   ·rw[e];exact⟨k1,k2,k3⟩
   ·refine⟨fun i hi=>?_,by omega,e3⟩;by_cases q:i<p3
    ·exact k1 i q
    ·exact e2 i (by omega) hi
  ·rw[if_neg g3] at h;exact (g3 h).elim
theorem HQ {t:List UInt8}(h:(gf t 0).2=true) (hl:(gf t 0).1=t.length):jQ t=true∧∃c,t[t.length-1]?=some c∧fS c=true:=by
 obtain⟨h1,h2,h3⟩:=N1 h;rw[hl] at h1 h3;refine⟨yQ fun c hc=>?_,h3⟩;obtain⟨i,hi,rfl⟩:=List.getElem_of_mem hc;obtain⟨c,c1,c2⟩:=h1 i hi;rw[List.getElem?_eq_getElem hi] at c1
 cases c1
 exact T4 c2
section
set_option maxRecDepth 100000
def Yy:gO:=js [(.agg [.int .i64,.str,.sl,.sl],[0,31,62,63,68,69,74,75,93,99,105,115,116,117,122,123,124,129,130,131,150,151,153,158,159,160]),(.one (.int .i64),[1,6,7,8,9,11,13,15,17,18,20,21,23,24,26,28,30,36,39,40,45,46,47,48,51,52,56,58,66,72,78,79,82,86,94,95,100,101,106,107,108,109,110,111,112,127,134,135,142,154,155]),(.one .own,[2,16,19,22,29]),(.one .bool,[4,25,27,32,33,34,41,49,50,53,54,55,59,60,80,81,83,84,85,87,88,89,113,114,118,119,120,126,133,136,137,138,139,140,141,143,144,145,146,147,148,156,157,161,162,163,164,165]),(.one .str,[5,10,12,14,38,43,57,65,71,77,91,97,103]),(.db [.one .str,.one (.int .i64)],[35,37,61,64,67,70,73,76]),(.db [.one (.int .i64),.one (.int .i64),.one (.int .i64)],[42,44]),(.db [.agg [.int .i64,.str,.sl,.sl],.one (.int .i64),.one (.int .i64)],[90,92,96,98,102,104]),(.db [.one .bool,.one (.int .i64)],[121,125,128,132]),(.db [.agg [.int .i64,.str,.sl,.sl],.one (.int .i64)],[149,152])]
def VN:XP:=[⟨.normal,[(60,.any)],[.cells 0 [.int .i64,.str,.sl,.sl] [.any,.any,.any,.any]],[(2,0,0)]⟩]
def VO:XP:=[⟨.ret,[(4,uA)],[.dead 0],[]⟩,⟨.normal,[],[.cells 0 [.int .i64,.str,.sl,.sl] [.any,.any,.any,.any]],[(2,0,0)]⟩]
def VP:XP:=[⟨.normal,[(10,.any),(12,.any),(14,.any),(88,.any)],[.cells 0 [.int .i64,.str,.sl,.sl] [.any,.any,.any,.any]],[(2,0,0)]⟩]
def VQ:XP:=[⟨.normal,[(120,.any)],[.cells 0 [.int .i64,.str,.sl,.sl] [.any,.any,.any,.any],.dead 1,.cells 2 [.int .i64,.str,.sl,.sl] [.any,.any,.any,.any],.cells 3 [.int .i64,.str,.sl,.sl] [.any,.any,.any,.any]],[(2,0,0),(19,2,0),(22,3,0)]⟩]
def VS:XP:=[⟨.normal,[(148,.any)],[.cells 0 [.int .i64,.str,.sl,.sl] [.any,.any,.any,.any],.dead 1,.dead 2,.dead 3],[(2,0,0)]⟩]
def VT:XP:=[⟨.normal,[(4,.any)],[.dead 0,.dead 1,.dead 2,.dead 3,.dead 4],[]⟩]
def Yx:Pl:=(.n none .z (.n none .z (.n (some VO) (.n none .z (.n none .z (.n none (.n none .z (.n (some VN) .z .z)) .z))) (.n none .z (.n none .z (.n none .z (.n none (.n (some VP) .z .z) (.n none .z (.n none .z (.n none .z (.n none (.n (some VQ) .z .z) (.n none .z (.n none .z (.n none (.n (some VS) .z .z) (.n none .z (.n (some VT) .z .z))))))))))))))))
noncomputable def Ik (point:Int) (s:List UInt8) (p n:Int) (bad n1:Int) (s1:List UInt8) (v v1:IV) (m:IM):Option LR:=aL (bad != 0) (some (.normal,[.bool true],[.cells [.int .i64 n1,.str s1,v,v1] [.any,.any,.any,.any]],m)) (aL (p != point) (some (.normal,[.bool true],[.cells [.int .i64 n1,.str s1,v,v1] [.any,.any,.any,.any]],m)) (some (.normal,[.bool (n != (↑(List.length s):Int))],[.cells [.int .i64 n1,.str s1,v,v1] [.any,.any,.any,.any]],m)))
noncomputable def BD (point n:Int) (s:List UInt8) (v v1:IV) (m:IM):Option LR:=an cw (.f 27) [.int .i64 point] [] m fun v0 m1=>jE v0 fun l2=>c6 l2 fun v3 l4=>gQ v3 fun s5=>uI .i64 l4 fun n8 l7=>bj l7 (aL (n8==0) (an cw (.f 28) [.str s5] [] m1 fun v9 m10=>jE v9 fun l11=>uI .i64 l11 fun n14 l13=>uI .i64 l13 fun n17 l16=>uI .i64 l16 fun n20 l19=>bj l19 (bn (Ik point s5 n14 n17 n20 n s v v1 m10) fun e21 l22 o23 m24=>fJ .normal e21 (c6 l22 fun v25 l26=>gu v25 fun b27=>bj l26 (jB o23 fun x28 o29=>jP x28 fun l30=>uV l30 fun n33 s36 v37 v39 l40=>bj l40 (cB o29 (aL b27 (some (.ret,[.bool false],[],m24)) (some (.normal,[],[.cells [.int .i64 n33,.str s36,v37,v39] [.any,.any,.any,.any]],m24)))))) none)) (some (.normal,[],[.cells [.int .i64 n,.str s,v,v1] [.any,.any,.any,.any]],m1)))
noncomputable def tA (a:List UInt8) (e1:Int) (b:List UInt8) (e2:Int) (c:List UInt8) (e3 n:Int) (s:List UInt8) (v v1:IV) (m:IM):Option LR:=aL (e1 != 0) (some (.normal,[.str a,.str b,.str c,.bool true],[.cells [.int .i64 n,.str s,v,v1] [.any,.any,.any,.any]],m)) (aL (e2 != 0) (some (.normal,[.str a,.str b,.str c,.bool true],[.cells [.int .i64 n,.str s,v,v1] [.any,.any,.any,.any]],m)) (some (.normal,[.str a,.str b,.str c,.bool (e3 != 0)],[.cells [.int .i64 n,.str s,v,v1] [.any,.any,.any,.any]],m)))
noncomputable def Fm (e4 e5:Int) (e6 n:Int) (s:List UInt8) (v v1:IV) (n1:Int) (s1:List UInt8) (v2 v3:IV) (n2:Int) (s2:List UInt8) (v4 v5:IV) (n3:Int) (s3:List UInt8) (v6 v7:IV) (m:IM):Option LR:=aL (IntKind.wrap .i64 (IntKind.wrap .i64 (e4+e5)+e6) != 0) (some (.normal,[.bool true],[.cells [.int .i64 n,.str s,v,v1] [.any,.any,.any,.any],.cells [.int .i64 n2,.str s2,v4,v5] [.any,.any,.any,.any],.cells [.int .i64 n3,.str s3,v6,v7] [.any,.any,.any,.any]],m)) (an cw (.f 16) [.agg [.int .i64 n1,.str s1,v2,v3]] [] m fun v0 m1=>iq v0 fun l2=>c6 l2 fun v3 l4=>fG .i64 v3 fun n5=>c6 l4 fun v6_1 l7=>gQ v6_1 fun s8=>c6 l7 fun v9 l10=>c6 l10 fun v11 l12=>bj l12 (an cw (.f 15) [.agg [.int .i64 n5,.str s8,v9,v11],.agg [.int .i64 n,.str s,v,v1]] [] m1 fun v13 m14=>gu v13 fun b15=>some (.normal,[.bool !b15],[.cells [.int .i64 n,.str s,v,v1] [.any,.any,.any,.any],.cells [.int .i64 n2,.str s2,v4,v5] [.any,.any,.any,.any],.cells [.int .i64 n3,.str s3,v6,v7] [.any,.any,.any,.any]],m14)))
noncomputable def vn (one:Bool) (e7:Int) (two:Bool) (e8 n:Int) (s:List UInt8) (v v1:IV) (n1:Int) (s1:List UInt8) (v2 v3:IV) (n2:Int) (s2:List UInt8) (v4 v5:IV) (m:IM):Option LR:=aL (e7==0) (aL (!one) (some (.normal,[.bool true],[.cells [.int .i64 n,.str s,v,v1] [.any,.any,.any,.any]],m)) (aL (e8==0) (some (.normal,[.bool !two],[.cells [.int .i64 n,.str s,v,v1] [.any,.any,.any,.any]],m)) (some (.normal,[.bool false],[.cells [.int .i64 n,.str s,v,v1] [.any,.any,.any,.any]],m)))) (aL (e8==0) (some (.normal,[.bool !two],[.cells [.int .i64 n,.str s,v,v1] [.any,.any,.any,.any]],m)) (some (.normal,[.bool false],[.cells [.int .i64 n,.str s,v,v1] [.any,.any,.any,.any]],m)))
noncomputable def Fo (e9 n:Int) (s:List UInt8) (v v1:IV) (n1:Int) (s1:List UInt8) (v2 v3:IV) (m:IM):Option LR:=aL (e9==0) (an cw (.f 16) [.agg [.int .i64 n1,.str s1,v2,v3]] [] m fun v0 m1=>iq v0 fun l2=>c6 l2 fun v3 l4=>fG .i64 v3 fun n5=>c6 l4 fun v6 l7=>gQ v6 fun s8=>c6 l7 fun v9 l10=>c6 l10 fun v11 l12=>bj l12 (an cw (.f 15) [.agg [.int .i64 n5,.str s8,v9,v11],.agg [.int .i64 n,.str s,v,v1]] [] m1 fun v13 m14=>gu v13 fun b15=>aL b15 (an cw (.f 10) [] [] m14 fun v16 m17=>gu v16 fun b18=>some (.normal,[.bool b18],[],m17)) (some (.normal,[.bool false],[],m14)))) (some (.normal,[.bool false],[],m))
noncomputable def F6 (v:Int) (v1:List UInt8) (v2 v3:IV) (point:Int) (m:IM):Option (IV×IM):=bf v2 (bf v3 (an cw (.f 17) [.agg [.int .i64 v,.str v1,v2,v3]] [] m fun v0 m1=>gu v0 fun b2=>aL (!b2) (an cw (.f 10) [] [] m1 fun v3 m4=>gu v3 fun b5=>settle m m4 (.bool b5)) (bn (BD point v v1 v2 v3 m1) fun e6 l7 o8 m9=>fJ .ret e6 (c6 l7 fun v10 l11=>gu v10 fun b12=>bj l11 (cB o8 (settle m m9 (.bool b12)))) (fJ .normal e6 (bj l7 (jB o8 fun x13 o14=>jP x13 fun l15=>uV l15 fun n18 s21 v22 v24 l25=>bj l25 (cB o14 (an cw (.f 19) [.agg [.int .i64 n18,.str s21,v22,v24]] [] m9 fun v26 m27=>iq v26 fun l28=>uV l28 fun n31 s34 v35 v37 l38=>bj l38 (an cw (.f 18) [.agg [.int .i64 n31,.str s34,v35,v37]] [] m27 fun v39 m40=>jE v39 fun l41=>c6 l41 fun v42 l43=>gQ v42 fun s44=>uI .i64 l43 fun n47 l46=>bj l46 (an cw (.f 19) [.agg [.int .i64 n18,.str s21,v22,v24]] [] m40 fun v48 m49=>iq v48 fun l50=>uV l50 fun n53 s56 v57 v59 l60=>bj l60 (an cw (.f 21) [.agg [.int .i64 n53,.str s56,v57,v59]] [] m49 fun v61 m62=>jE v61 fun l63=>c6 l63 fun v64 l65=>gQ v64 fun s66=>uI .i64 l65 fun n69 l68=>bj l68 (an cw (.f 19) [.agg [.int .i64 n18,.str s21,v22,v24]] [] m62 fun v70 m71=>iq v70 fun l72=>uV l72 fun n75 s78 v79 v81 l82=>bj l82 (an cw (.f 23) [.agg [.int .i64 n75,.str s78,v79,v81]] [] m71 fun v83 m84=>jE v83 fun l85=>c6 l85 fun v86 l87=>gQ v86 fun s88=>uI .i64 l87 fun n91 l90=>bj l90 (bn (tA s44 n47 s66 n69 s88 n91 n18 s21 v22 v24 m84) fun e92 l93 o94 m95=>fJ .normal e92 (c6 l93 fun v96 l97=>gQ v96 fun s98=>c6 l97 fun v99 l100=>gQ v99 fun s101=>c6 l100 fun v102 l103=>gQ v102 fun s104=>c6 l103 fun v105 l106=>gu v105 fun b107=>bj l106 (jB o94 fun x108 o109=>jP x108 fun l110=>uV l110 fun n113 s116 v117 v119 l120=>bj l120 (cB o109 (aL b107 (an cw (.f 10) [] [] m95 fun v121 m122=>gu v121 fun b123=>settle m m122 (.bool b123)) (an cw (.f 13) [.str s98] [] m95 fun v124 m125=>jE v124 fun l126=>c6 l126 fun v127 l128=>iq v127 fun l129=>uV l129 fun n132 s135 v136 v138 l139=>bj l139 (uI .i64 l128 fun n142 l141=>uI .i64 l141 fun n145 l144=>bj l144 (bf v136 (bf v138 (an cw (.f 13) [.str s101] [] m125 fun v146 m147=>jE v146 fun l148=>c6 l148 fun v149 l150=>iq v149 fun l151=>uV l151 fun n154 s157 v158 v160 l161=>bj l161 (uI .i64 l150 fun n164 l163=>uI .i64 l163 fun n167 l166=>bj l166 (bf v158 (bf v160 (an cw (.f 13) [.str s104] [] m147 fun v168 m169=>jE v168 fun l170=>c6 l170 fun v171 l172=>iq v171 fun l173=>uV l173 fun n176 s179 v180 v182 l183=>bj l183 (uI .i64 l172 fun n186 l185=>uI .i64 l185 fun n189 l188=>bj l188 (bf v180 (bf v182 (bn (Fm n145 n167 n189 n113 s116 v117 v119 n132 s135 v136 v138 n154 s157 v158 v160 n176 s179 v180 v182 m169) fun e190 l191 o192 m193=>fJ .normal e190 (c6 l191 fun v194 l195=>gu v194 fun b196=>bj l195 (jB o192 fun x197 o198=>jP x197 fun l199=>uV l199 fun n202 s205 v206 v208 l209=>bj l209 (jB o198 fun x210 o211=>jP x210 fun l212=>uV l212 fun n215 s218 v219 v221 l222=>bj l222 (jB o211 fun x223 o224=>jP x223 fun l225=>uV l225 fun n228 s231 v232 v234 l235=>bj l235 (cB o224 (aL b196 (settle m m193 (.bool false)) (an cw (.f 19) [.agg [.int .i64 n202,.str s205,v206,v208]] [] m193 fun v236 m237=>iq v236 fun l238=>uV l238 fun n241 s244 v245 v247 l248=>bj l248 (an cw (.f 29) [.agg [.int .i64 n241,.str s244,v245,v247],.agg [.int .i64 n215,.str s218,v219,v221]] [] m237 fun v249 m250=>jE v249 fun l251=>c6 l251 fun v252 l253=>gu v252 fun b254=>uI .i64 l253 fun n257 l256=>bj l256 (an cw (.f 19) [.agg [.int .i64 n202,.str s205,v206,v208]] [] m250 fun v258 m259=>iq v258 fun l260=>uV l260 fun n263 s266 v267 v269 l270=>bj l270 (an cw (.f 29) [.agg [.int .i64 n263,.str s266,v267,v269],.agg [.int .i64 n228,.str s231,v232,v234]] [] m259 fun v271 m272=>jE v271 fun l273=>c6 l273 fun v274 l275=>gu v274 fun b276=>uI .i64 l275 fun n279 l278=>bj l278 (bn (vn b254 n257 b276 n279 n202 s205 v206 v208 n215 s218 v219 v221 n228 s231 v232 v234 m272) fun e280 l281 o282 m283=>fJ .normal e280 (c6 l281 fun v284 l285=>gu v284 fun b286=>bj l285 (jB o282 fun x287 o288=>jP x287 fun l289=>uV l289 fun n292 s295 v296 v298 l299=>bj l299 (cB o288 (aL b286 (settle m m283 (.bool false)) (an cw (.f 19) [.agg [.int .i64 n292,.str s295,v296,v298]] [] m283 fun v300 m301=>iq v300 fun l302=>uV l302 fun n305 s308 v309 v311 l312=>bj l312 (an cw (.f 30) [.agg [.int .i64 n305,.str s308,v309,v311],.str []] [] m301 fun v313 m314=>jE v313 fun l315=>c6 l315 fun v316 l317=>iq v316 fun l318=>uV l318 fun n321 s324 v325 v327 l328=>bj l328 (uI .i64 l317 fun n331 l330=>bj l330 (bf v325 (bf v327 (bn (Fo n331 n292 s295 v296 v298 n321 s324 v325 v327 m314) fun e332 l333 o334 m335=>fJ .normal e332 (c6 l333 fun v336 l337=>gu v336 fun b338=>bj l337 (cB o334 (settle m m335 (.bool b338)))) none)))))))))) none))))))))))) none))))))))))))))))) none)))))))))) none))))
theorem zZ v v1 v2 v3 point m {res} (h:F6 v v1 v2 v3 point m=some res):cw (.f 6) [.agg [.int .i64 v,.str v1,v2,v3],.int .i64 point] m=some res:=aJ rfl rfl ((by kernel_rfl:eL Yy Yx i6 cw _ _=_).trans h)
def XK:gO:=js [(.agg [.int .i64,.str,.sl,.sl],[0,1,7,9,16,19,22,23]),(.one .own,[2,3]),(.one .bool,[4,14,17,18,20,21,24]),(.one (.int .i64),[5,6,8,10,12,13,15]),(.one .sl,[11])]
def SZ:XP:=[⟨.normal,[(21,.any)],[.cells 0 [.int .i64,.str,.sl,.sl] [.any,.any,.any,.any],.cells 1 [.int .i64,.str,.sl,.sl] [.any,.any,.any,.any]],[(2,0,0),(3,1,0)]⟩]
def W2:Pl:=(.n none .z (.n none .z (.n none (.n (some SZ) .z .z) .z)))
noncomputable def zP (n:Int) (s:List UInt8) (v v1:IV) (n1:Int) (s1:List UInt8) (v2 v3:IV) (m:IM):Option LR:=an cw (.f 59) [.agg [.int .i64 n,.str s,v,v1]] [] m fun v0 m1=>gu v0 fun b2=>aL b2 (some (.normal,[.bool true],[.cells [.int .i64 n,.str s,v,v1] [.any,.any,.any,.any],.cells [.int .i64 n1,.str s1,v2,v3] [.any,.any,.any,.any]],m1)) (an cw (.f 59) [.agg [.int .i64 n1,.str s1,v2,v3]] [] m1 fun v3_1 m4=>gu v3_1 fun b5=>some (.normal,[.bool b5],[.cells [.int .i64 n,.str s,v,v1] [.any,.any,.any,.any],.cells [.int .i64 n1,.str s1,v2,v3] [.any,.any,.any,.any]],m4))
noncomputable def Wg (a:Int) (a1:List UInt8) (a2 a3:IV) (b:Int) (b1:List UInt8) (b2 b3:IV) (m:IM):Option (IV×IM):=bf a2 (bf a3 (bf b2 (bf b3 (an cw (.f 25) [.agg [.int .i64 a,.str a1,a2,a3]] [] m fun v0 m1=>fG .i64 v0 fun n2=>an cw (.f 25) [.agg [.int .i64 b,.str b1,b2,b3]] [] m1 fun v3 m4=>fG .i64 v3 fun n5=>an cw (.f 58) [.sl [.int .i64 n2,.int .i64 n5] 2] [] m4 fun v6 m7=>fG .i64 v6 fun n8=>aL (n8 != 0) (settle m m7 (.db [.bool false,.int .i64 n8])) (bn (zP a a1 a2 a3 b b1 b2 b3 m7) fun e9 l10 o11 m12=>fJ .normal e9 (c6 l10 fun v13 l14=>gu v13 fun b15=>bj l14 (jB o11 fun x16 o17=>jP x16 fun l18=>uV l18 fun n21 s24 v25 v27 l28=>bj l28 (jB o17 fun x29 o30=>jP x29 fun l31=>uV l31 fun n34 s37 v38 v40 l41=>bj l41 (cB o30 (aL b15 (settle m m12 (.db [.bool false,.int .i64 4])) (an cw (.f 60) [.agg [.int .i64 n21,.str s24,v25,v27],.agg [.int .i64 n34,.str s37,v38,v40]] [] m12 fun v42 m43=>gu v42 fun b44=>settle m m43 (.db [.bool b44,.int .i64 0]))))))) none)))))
theorem BH a a1 a2 a3 b b1 b2 b3 m {res} (h:Wg a a1 a2 a3 b b1 b2 b3 m=some res):cw (.f 29) [.agg [.int .i64 a,.str a1,a2,a3],.agg [.int .i64 b,.str b1,b2,b3]] m=some res:=aJ rfl rfl ((by kernel_rfl:eL XK W2 i29 cw _ _=_).trans h)
def SE:gO:=js [(.agg [.int .i64,.str,.sl,.sl],[0,12,16,25,32,37,42,44,45]),(.one .str,[1,10,19,31,33]),(.one .own,[2,4,38]),(.one (.int .i64),[5,6,11,13,14,17,27,28,34,35,40,43]),(.one .sl,[7,21,26,39]),(.one .bool,[8,15,22,23,24,36]),(.db [.one .sl,.one .bool],[18,20])]
def Qq:XP:=[⟨(.exit 0),[],[.cells 0 [.int .i64,.str,.sl,.sl] [.any,.any,.any,.any],.cells 1 [.int .i64,.str,.sl,.sl] [.any,.any,(.own 1),(.own 4)]],[(2,0,0),(4,1,0)]⟩,⟨.ret,[(5,uA)],[.dead 0,.cells 1 [.int .i64,.str,.sl,.sl] [.any,.any,.any,.any]],[(4,1,0)]⟩]
def P4:Pl:=.z
def W3:Pl:=(.n none .z (.n none .z (.n none .z (.n none .z (.n none (.n none .z (.n none (.n (some Qq) P4 .z) .z)) .z)))))
noncomputable def O9:St→Option (St⊕LR):=fun s=>PF.den SE cw (St⊕LR) P4 s (gM SE Pm Qq)
noncomputable def IU (v:IV) (n n1 n2:Int) (s:List UInt8) (v1 v2:IV) (n3:Int) (s1:List UInt8) (v3 v4:IV) (m:IM):Option LR:=iter O9 (St.mk [(2,.pL 0 0,.any),(4,.pL 1 0,.any),(26,v,.any),(27,.int .i64 n,.any),(28,.int .i64 n1,.any)] [] [(0,.cells [.int .i64 n2,.str s,v1,v2] [.any,.any,.any,.any]),(1,.cells [.int .i64 n3,.str s1,v3,v4] [.any,.any,.own 1,.own 4])] m)
noncomputable def OS (v:IV) (n n1 n2:Int) (s:List UInt8) (v1 v2:IV) (n3:Int) (s1:List UInt8) (v3 v4:IV) (m:IM):Option (St⊕LR):=aL (decide (n1<n)) (fq (.aw 1) [v,.int .i64 n1] fun v0=>lD m false 1 v0 fun v1_1=>gQ v1_1 fun s2=>an cw (.f 62) [.agg [.int .i64 n2,.str s,v1,v2],.str s2] [] m fun v3_1 m4=>fG .i64 v3_1 fun n5=>aL (decide (n5<0)) (some (.inr (.ret,[.int .i64 8],[.cells [.int .i64 0,.str [],.aa,.aa] [.any,.any,.any,.any]],m4))) (fq (.aw 4) [v2,.int .i64 n5] fun v6=>lD m4 true 4 v6 fun v7=>iq v7 fun l8=>uV l8 fun n11 s14 v15 v17 l18=>bj l18 (bf v15 (bf v17 (dk v (some (.inl (St.mk [(2,.pL 0 0,.any),(4,.pL 1 0,.any),(26,v,.any),(27,.int .i64 n,.any),(28,.int .i64 (IntKind.wrap .i64 (n1+1)),.any)] [] [(0,.cells [.int .i64 n11,.str s14,v15,v17] [.any,.any,.any,.any]),(1,.cells [.int .i64 n3,.str s1,v3,v4] [.any,.any,.own 1,.own 4])] m4)))))))) (some (.inr (.exit 0,[],[.cells [.int .i64 n2,.str s,v1,v2] [.any,.any,.any,.any],.cells [.int .i64 n3,.str s1,v3,v4] [.any,.any,.own 1,.own 4]],m)))
theorem IW v n n1 n2 s v1 v2 n3 s1 v3 v4 m:IU v n n1 n2 s v1 v2 n3 s1 v3 v4 m=gK O9 (OS v n n1 n2 s v1 v2 n3 s1 v3 v4 m):=(cz _ _).trans (congrArg (gK _) (by kernel_rfl))
noncomputable def X9 (v:Int) (v1:List UInt8) (v2 v3:IV) (pointer:List UInt8) (m:IM):Option (IV×IM):=bf v2 (bf v3 (an cw (.f 25) [.agg [.int .i64 v,.str v1,v2,v3]] [] m fun v0 m1=>fG .i64 v0 fun n2=>aL (n2 != 0) (settle m m1 (.db [.agg [.int .i64 0,.str [],.aa,.aa],.int .i64 n2])) (an cw (.f 61) [.str pointer] [] m1 fun v3_1 m4=>jE v3_1 fun l5=>c6 l5 fun v6 l7=>c6 l7 fun v8 l9=>gu v8 fun b10=>bj l9 (aL (!b10) (settle m m4 (.db [.agg [.int .i64 0,.str [],.aa,.aa],.int .i64 1])) (fq .ay [v6] fun v11=>fG .i64 v11 fun n12=>dk v6 (bn (IU v6 n12 0 v v1 v2 v3 0 [] .aa .aa m4) fun e13 l14 o15 m16=>fJ (.exit 0) e13 (bj l14 (jB o15 fun x17 o18=>jP x17 fun l19=>uV l19 fun n22 s25 v26 v28 l29=>bj l29 (jB o18 fun x30 o31=>jP x30 fun l32=>uV l32 fun n35 s38 v39 v41 l42=>bj l42 (cB o31 (an cw (.f 63) [.agg [.int .i64 n22,.str s25,v26,v28]] [] m16 fun v43 m44=>iq v43 fun l45=>uV l45 fun n48 s51 v52 v54 l55=>bj l55 (bf v52 (bf v54 (settle m m44 (.db [.agg [.int .i64 n48,.str s51,v52,v54],.int .i64 0]))))))))) (fJ .ret e13 (uI .i64 l14 fun n58 l57=>bj l57 (jB o15 fun x59 o60=>jP x59 fun l61=>uV l61 fun n64 s67 v68 v70 l71=>bj l71 (cB o60 (settle m m16 (.db [.agg [.int .i64 n64,.str s67,v68,v70],.int .i64 n58]))))) none)))))))
theorem Iu v v1 v2 v3 pointer m {res} (h:X9 v v1 v2 v3 pointer m=some res):cw (.f 30) [.agg [.int .i64 v,.str v1,v2,v3],.str pointer] m=some res:=aJ rfl rfl ((by kernel_rfl:eL SE W3 i30 cw _ _=_).trans h)
def XQ:gO:=js [(.agg [.int .i64,.str,.sl,.sl],[0]),(.one .own,[1,4,8,20]),(.one .bool,[2,6,14,15,17,18,19,22,23]),(.one (.int .i64),[3,5,12,13,16]),(.db [.one .str,.one (.int .i64)],[7,10]),(.one .str,[9,11]),(.one .sl,[21])]
def S5:XP:=[⟨.normal,[(3,.any)],[.cells 0 [.int .i64,.str,.sl,.sl] [.any,.any,.any,.any]],[(1,0,0)]⟩]
def S6:XP:=[⟨.normal,[(2,.any)],[.dead 0],[]⟩]
def Xc:Pl:=(.n none .z (.n none .z (.n (some S5) .z (.n (some S6) .z .z))))
noncomputable def zR (n n1:Int) (s:List UInt8) (v v1:IV) (m:IM):Option LR:=aL (n1==2) (an cw (.f 86) [.str s] [] m fun v0 m1=>jE v0 fun l2=>c6 l2 fun v3 l4=>gQ v3 fun s5=>uI .i64 l4 fun n8 l7=>bj l7 (some (.normal,[.int .i64 n8],[.cells [.int .i64 n1,.str s,v,v1] [.any,.any,.any,.any]],m1))) (some (.normal,[.int .i64 n],[.cells [.int .i64 n1,.str s,v,v1] [.any,.any,.any,.any]],m))
noncomputable def vm (n n1:Int) (s:List UInt8) (v v1:IV) (m:IM):Option LR:=aL (decide (n>400)) (some (.normal,[.bool true],[],m)) (aL (decide (n < -400)) (some (.normal,[.bool true],[],m)) (an cw (.f 87) [v1,.func 59 [] []] [] m fun v0 m1=>gu v0 fun b2=>some (.normal,[.bool b2],[],m1)))
noncomputable def Ye (v:Int) (v1:List UInt8) (v2 v3:IV) (m:IM):Option (IV×IM):=bf v2 (bf v3 (bn (zR 0 v v1 v2 v3 m) fun e0 l1 o2 m3=>fJ .normal e0 (uI .i64 l1 fun n6 l5=>bj l5 (jB o2 fun x7 o8=>jP x7 fun l9=>uV l9 fun n12 s15 v16 v18 l19=>bj l19 (cB o8 (bn (vm n6 n12 s15 v16 v18 m3) fun e20 l21 o22 m23=>fJ .normal e20 (c6 l21 fun v24 l25=>gu v24 fun b26=>bj l25 (cB o22 (settle m m23 (.bool b26)))) none)))) none))
theorem IA v v1 v2 v3 m {res} (h:Ye v v1 v2 v3 m=some res):cw (.f 59) [.agg [.int .i64 v,.str v1,v2,v3]] m=some res:=aJ rfl rfl ((by kernel_rfl:eL XQ Xc i59 cw _ _=_).trans h)
def SJ:gO:=js [(.agg [.int .i64,.str,.sl,.sl],[0,1,46,62,67]),(.one .own,[2,3,7,9,11,15,18,23,26,28,39,48,51,53,63,72,74]),(.one .bool,[4,13,14,21,22,25,38,50,60,61,68,69,70,76]),(.one .sl,[5,16,19,30,31,32,35,40,52,54,64]),(.one (.int .i64),[6,8,10,12,17,20,24,41,42,44,47,49,55,58,59,65,71]),(.one .str,[27,29,57,73,75]),(.agg [.bool,.str,.int .i64],[34,37])]
def S7:XP:=[⟨.normal,[(22,.any)],[.cells 0 [.int .i64,.str,.sl,.sl] [.any,.any,.any,.any],.cells 1 [.int .i64,.str,.sl,.sl] [.any,.any,.any,.any]],[(2,0,0),(3,1,0)]⟩]
def S8:XP:=[⟨.normal,[(8,.any),(40,.any),(41,.any),(42,.any)],[.cells 0 [.int .i64,.str,.sl,.sl] [.any,.any,.any,.any],.cells 1 [.int .i64,.str,.sl,.sl] [.any,.any,.any,.any],.cells 2 [.int .i64,.str,.sl,.sl] [.any,.any,.any,.any]],[(2,0,0),(3,1,0),(7,2,0)]⟩]
def S9:XP:=[⟨.normal,[(40,.any),(41,.any),(42,.any),(70,.any)],[.cells 0 [.int .i64,.str,.sl,.sl] [.any,.any,.any,.any],.cells 1 [.int .i64,.str,.sl,.sl] [.any,.any,.any,.any],.dead 2],[(2,0,0),(3,1,0)]⟩]
def Qv:XP:=[⟨(.exit 0),[],[.cells 0 [.int .i64,.str,.sl,.sl] [.any,.any,.any,.any],.cells 1 [.int .i64,.str,.sl,.sl] [.any,.any,.any,.any]],[(2,0,0),(3,1,0)]⟩,⟨.ret,[(4,uA)],[.dead 0,.dead 1,.dead 2],[]⟩]
def P9:Pl:=(.n none .z (.n none .z (.n none (.n none (.n none .z (.n none .z (.n (some S8) .z (.n (some S9) .z .z)))) .z) .z)))
def Xd:Pl:=(.n none .z (.n none (.n (some S7) .z .z) (.n none .z (.n none (.n none .z (.n none (.n (some Qv) P9 .z) .z)) .z))))
noncomputable def DM (n:Int) (s:List UInt8) (v v1:IV) (n1:Int) (s1:List UInt8) (v2 v3:IV) (m:IM):Option LR:=aL (n != n1) (some (.normal,[.bool true],[.cells [.int .i64 n,.str s,v,v1] [.any,.any,.any,.any],.cells [.int .i64 n1,.str s1,v2,v3] [.any,.any,.any,.any]],m)) (fq .ay [v1] fun v0=>fG .i64 v0 fun n1_1=>fq .ay [v3] fun v2_1=>fG .i64 v2_1 fun n3=>some (.normal,[.bool (n1_1 != n3)],[.cells [.int .i64 n,.str s,v,v1] [.any,.any,.any,.any],.cells [.int .i64 n1,.str s1,v2,v3] [.any,.any,.any,.any]],m))
noncomputable def zS (i k:Int) (v:IV) (n n1 n2:Int) (s:List UInt8) (v1 v2:IV) (n3:Int) (s1:List UInt8) (v3 v4:IV) (n4:Int) (s2:List UInt8) (v5 v6:IV) (m:IM):Option LR:=aL (n2==5) (fq (.aw 1) [v1,.int .i64 i] fun v0=>lD m false 1 v0 fun v1_1=>gQ v1_1 fun s2_1=>an cw (.f 90) [v3,.str s2_1] [] m fun v3_1 m4=>fG .i64 v3_1 fun n5=>some (.normal,[.int .i64 n5,v,.int .i64 n,.int .i64 n1],[.cells [.int .i64 n2,.str s,v1,v2] [.any,.any,.any,.any],.cells [.int .i64 n3,.str s1,v3,v4] [.any,.any,.any,.any],.cells [.int .i64 n4,.str s2,v5,v6] [.any,.any,.any,.any]],m4)) (some (.normal,[.int .i64 k,v,.int .i64 n,.int .i64 n1],[.cells [.int .i64 n2,.str s,v1,v2] [.any,.any,.any,.any],.cells [.int .i64 n3,.str s1,v3,v4] [.any,.any,.any,.any],.cells [.int .i64 n4,.str s2,v5,v6] [.any,.any,.any,.any]],m))
noncomputable def DN (k:Int) (v:IV) (n n1 n2:Int) (s:List UInt8) (v1 v2:IV) (n3:Int) (s1:List UInt8) (v3 v4:IV) (n4:Int) (s2:List UInt8) (v5 v6:IV) (m:IM):Option LR:=aL (decide (k<0)) (some (.normal,[v,.int .i64 n,.int .i64 n1,.bool true],[.cells [.int .i64 n2,.str s,v1,v2] [.any,.any,.any,.any],.cells [.int .i64 n3,.str s1,v3,v4] [.any,.any,.any,.any]],m)) (fq (.aw 4) [v4,.int .i64 k] fun v0=>lD m true 4 v0 fun v1_1=>iq v1_1 fun l2=>uV l2 fun n5 s8 v9 v11 l12=>bj l12 (an cw (.f 60) [.agg [.int .i64 n4,.str s2,v5,v6],.agg [.int .i64 n5,.str s8,v9,v11]] [] m fun v13 m14=>gu v13 fun b15=>some (.normal,[v,.int .i64 n,.int .i64 n1,.bool !b15],[.cells [.int .i64 n2,.str s,v1,v2] [.any,.any,.any,.any],.cells [.int .i64 n3,.str s1,v3,v4] [.any,.any,.any,.any]],m14)))
noncomputable def Pc:St→Option (St⊕LR):=fun s=>PK.den SJ cw (St⊕LR) P9 s (gM SJ Pr Qv)
noncomputable def Fv (v:IV) (n n1 n2:Int) (s:List UInt8) (v1 v2:IV) (n3:Int) (s1:List UInt8) (v3 v4:IV) (m:IM):Option LR:=iter Pc (St.mk [(2,.pL 0 0,.any),(3,.pL 1 0,.any),(40,v,.any),(41,.int .i64 n,.any),(42,.int .i64 n1,.any)] [] [(0,.cells [.int .i64 n2,.str s,v1,v2] [.any,.any,.any,.any]),(1,.cells [.int .i64 n3,.str s1,v3,v4] [.any,.any,.any,.any])] m)
noncomputable def Ih (v:IV) (n n1 n2:Int) (s:List UInt8) (v1 v2:IV) (n3:Int) (s1:List UInt8) (v3 v4:IV) (m:IM):Option (St⊕LR):=aL (decide (n1<n)) (fq (.aw 4) [v,.int .i64 n1] fun v0=>lD m true 4 v0 fun v1_1=>iq v1_1 fun l2=>uV l2 fun n5 s8 v9 v11 l12=>bj l12 (bf v9 (bf v11 (bn (zS n1 n1 v n n1 n2 s v1 v2 n3 s1 v3 v4 n5 s8 v9 v11 m) fun e13 l14 o15 m16=>fJ .normal e13 (uI .i64 l14 fun n19 l18=>c6 l18 fun v20 l21=>uI .i64 l21 fun n24 l23=>uI .i64 l23 fun n27 l26=>bj l26 (jB o15 fun x28 o29=>jP x28 fun l30=>uV l30 fun n33 s36 v37 v39 l40=>bj l40 (jB o29 fun x41 o42=>jP x41 fun l43=>uV l43 fun n46 s49 v50 v52 l53=>bj l53 (jB o42 fun x54 o55=>jP x54 fun l56=>uV l56 fun n59 s62 v63 v65 l66=>bj l66 (cB o55 (bn (DN n19 v20 n24 n27 n33 s36 v37 v39 n46 s49 v50 v52 n59 s62 v63 v65 m16) fun e67 l68 o69 m70=>fJ .normal e67 (c6 l68 fun v71 l72=>uI .i64 l72 fun n75 l74=>uI .i64 l74 fun n78 l77=>c6 l77 fun v79 l80=>gu v79 fun b81=>bj l80 (jB o69 fun x82 o83=>jP x82 fun l84=>uV l84 fun n87 s90 v91 v93 l94=>bj l94 (jB o83 fun x95 o96=>jP x95 fun l97=>uV l97 fun n100 s103 v104 v106 l107=>bj l107 (cB o96 (aL b81 (some (.inr (.ret,[.bool false],[],m70))) (dk v71 (some (.inl (St.mk [(2,.pL 0 0,.any),(3,.pL 1 0,.any),(40,v71,.any),(41,.int .i64 n75,.any),(42,.int .i64 (IntKind.wrap .i64 (n78+1)),.any)] [] [(0,.cells [.int .i64 n87,.str s90,v91,v93] [.any,.any,.any,.any]),(1,.cells [.int .i64 n100,.str s103,v104,v106] [.any,.any,.any,.any])] m70))))))))) none)))))) none)))) (some (.inr (.exit 0,[],[.cells [.int .i64 n2,.str s,v1,v2] [.any,.any,.any,.any],.cells [.int .i64 n3,.str s1,v3,v4] [.any,.any,.any,.any]],m)))
theorem BS v n n1 n2 s v1 v2 n3 s1 v3 v4 m:Fv v n n1 n2 s v1 v2 n3 s1 v3 v4 m=gK Pc (Ih v n n1 n2 s v1 v2 n3 s1 v3 v4 m):=(cz _ _).trans (congrArg (gK _) (by kernel_rfl))
noncomputable def Wi (a:Int) (a1:List UInt8) (a2 a3:IV) (b:Int) (b1:List UInt8) (b2 b3:IV) (m:IM):Option (IV×IM):=bf a2 (bf a3 (bf b2 (bf b3 (bn (DM a a1 a2 a3 b b1 b2 b3 m) fun e0 l1 o2 m3=>fJ .normal e0 (c6 l1 fun v4 l5=>gu v4 fun b6=>bj l5 (jB o2 fun x7 o8=>jP x7 fun l9=>uV l9 fun n12 s15 v16 v18 l19=>bj l19 (jB o8 fun x20 o21=>jP x20 fun l22=>uV l22 fun n25 s28 v29 v31 l32=>bj l32 (cB o21 (aL b6 (settle m m3 (.bool false)) (aL (n12==2) (an cw (.f 88) [.sl [.str s15,.str s28] 2,.func 89 [] []] [] m3 fun v33 m34=>fq (.aw 3) [v33,.int .i64 0] fun v35=>lD m34 true 3 v35 fun v36=>iq v36 fun l37=>c6 l37 fun v38 l39=>gu v38 fun b40=>c6 l39 fun v41 l42=>gQ v41 fun s43=>uI .i64 l42 fun n46 l45=>bj l45 (fq (.aw 3) [v33,.int .i64 1] fun v47=>lD m34 true 3 v47 fun v48=>iq v48 fun l49=>c6 l49 fun v50 l51=>gu v50 fun b52=>c6 l51 fun v53 l54=>gQ v53 fun s55=>uI .i64 l54 fun n58 l57=>bj l57 (fq (.lu false [(0,.bool),(1,.str),(2,.int)]) [.agg [.bool b40,.str s43,.int .i64 n46],.agg [.bool b52,.str s55,.int .i64 n58]] fun v59=>gu v59 fun b60=>settle m m34 (.bool b60)))) (fq .ay [v18] fun v61=>fG .i64 v61 fun n62=>dk v18 (bn (Fv v18 n62 0 n12 s15 v16 v18 n25 s28 v29 v31 m3) fun e63 l64 o65 m66=>fJ (.exit 0) e63 (bj l64 (jB o65 fun x67 o68=>jP x67 fun l69=>uV l69 fun n72 s75 v76 v78 l79=>bj l79 (jB o68 fun x80 o81=>jP x80 fun l82=>uV l82 fun n85 s88 v89 v91 l92=>bj l92 (cB o81 (settle m m66 (.bool (s75==s88))))))) (fJ .ret e63 (c6 l64 fun v93 l94=>gu v93 fun b95=>bj l94 (cB o65 (settle m m66 (.bool b95)))) none))))))))) none))))
theorem IB a a1 a2 a3 b b1 b2 b3 m {res} (h:Wi a a1 a2 a3 b b1 b2 b3 m=some res):cw (.f 60) [.agg [.int .i64 a,.str a1,a2,a3],.agg [.int .i64 b,.str b1,b2,b3]] m=some res:=aJ rfl rfl ((by kernel_rfl:eL SJ Xd i60 cw _ _=_).trans h)
def XR:gO:=js [(.one .str,[0,7,9,13]),(.one .sl,[2,4,6,10,11,15,16,18,19]),(.one .bool,[3,8,14,20]),(.one .ptr,[5])]
def Xe:Pl:=.z
noncomputable def Yf (pointer:List UInt8) (m:IM):Option (IV×IM):=aL (pointer==[]) (settle m m (.db [.aa,.bool true])) (an cw (.f 91) [.str pointer,.str [47]] [] m fun v0 m1=>fq (.aw 1) [v0,.int .i64 0] fun v2=>lD m1 false 1 v2 fun v3=>gQ v3 fun s4=>lN (bZ m1 (.cells [.bool false] [.any])) (.pB (IM.size m1) 0) [.bool (s4==[])] .any fun m5=>fq (.mS 1 true false) [v0,.int .i64 1] fun v6=>an cw (.f 92) [v6,.func 93 [] [.pB (IM.size m1) 0]] [] m5 fun v7 m8=>gH m8 (IM.size m1) fun l9 x10=>eV false l9 0 1 fun v11=>gu v11 fun b12=>settle m m8 (.db [v7,.bool b12]))
theorem IC pointer m {res} (h:Yf pointer m=some res):cw (.f 61) [.str pointer] m=some res:=aJ rfl rfl ((by kernel_rfl:eL XR Xe i61 cw _ _=_).trans h)
def XS:gO:=js [(.agg [.int .i64,.str,.sl,.sl],[0,11]),(.one .own,[1,2,3,6,7,10]),(.one .sl,[4,5,8,9])]
def Xf:Pl:=.z
noncomputable def Yg (v:Int) (v1:List UInt8) (v2 v3:IV) (m:IM):Option (IV×IM):=bf v2 (bf v3 (an cw (.f 95) [v2] [] m fun v0 m1=>xw v0 (bf v0 (an cw (.f 96) [v3,.func 63 [] []] [] m1 fun v2 m3=>xw v2 (bf v2 (bf v0 (bf v2 (settle m m3 (.agg [.int .i64 v,.str v1,v0,v2])))))))))
theorem ID v v1 v2 v3 m {res} (h:Yg v v1 v2 v3 m=some res):cw (.f 63) [.agg [.int .i64 v,.str v1,v2,v3]] m=some res:=aJ rfl rfl ((by kernel_rfl:eL XS Xf i63 cw _ _=_).trans h)
def SN:gO:=js [(.one .str,[0,2,8,12,13,16,17,29,36,38]),(.one (.int .i64),[3,4,5,9,10,14,15,22,23,26,27,28,30,31,34,35,37,39]),(.one (.int .i32),[7,21,24,25]),(.one .bool,[11,20,33]),(.one .own,[18]),(.one (.int .u8),[32])]
def Te:XP:=[⟨.normal,[(0,.any),(4,.any),(5,.any),(19,.any),(20,.any)],[.iter 0],[(18,0,0)]⟩]
def Qz:XP:=[⟨(.exit 0),[(0,.any),(4,.any),(5,.any)],[.dead 0],[]⟩]
def Qd:Pl:=(.n (some Te) .z .z)
def Tf:XP:=[⟨.normal,[(0,.any),(4,.any),(5,.any)],[.dead 0],[]⟩]
def Xm:Pl:=(.n none .z (.n none .z (.n none .z (.n none .z (.n none (.n none .z (.n none (.n (some Qz) Qd .z) .z)) (.n (some Tf) .z .z))))))
noncomputable def zU (s:List UInt8) (at_ n:Int) (s1:List UInt8) (k:Nat) (m:IM):Option LR:=aL (decide (k<List.length s1)) (some (.normal,[.str s,.int .i64 at_,.int .i64 n,.db [.bool true,.int .i64 (↑k:Int),.int .i32 (↑(Prod.fst (Utf8.decode (ByteArray.mk (Array.mk s1)) k)):Int)],.bool true],[.iter s1 (k+Prod.snd (Utf8.decode (ByteArray.mk (Array.mk s1)) k))],m)) (some (.normal,[.str s,.int .i64 at_,.int .i64 n,.db [.bool false],.bool false],[.iter s1 k],m))
noncomputable def Pd:St→Option (St⊕LR):=fun s=>PO.den SN cw (St⊕LR) Qd s (gM SN Pv Qz)
noncomputable def IZ (s:List UInt8) (at_ n:Int) (s1:List UInt8) (k:Nat) (m:IM):Option LR:=iter Pd (St.mk [(0,.str s,.any),(4,.int .i64 at_,.any),(5,.int .i64 n,.any),(18,.pL 0 0,.any)] [] [(0,.iter s1 k)] m)
noncomputable def Fj (s:List UInt8) (at_ n:Int) (s1:List UInt8) (k:Nat) (m:IM):Option (St⊕LR):=bn (zU s at_ n s1 k m) fun e0 l1 o2 m3=>fJ .normal e0 (c6 l1 fun v4 l5=>gQ v4 fun s6=>uI .i64 l5 fun n9 l8=>uI .i64 l8 fun n12 l11=>c6 l11 fun v13 l14=>c6 l14 fun v15 l16=>gu v15 fun b17=>bj l16 (jB o2 fun x18 o19=>Ja x18 fun s20 k21=>cB o19 (aL b17 (fq (.extract 2) [v13] fun v22=>fG .i32 v22 fun n23=>some (.inl (St.mk [(0,.str s6,.any),(4,.int .i64 n9,.any),(5,.int .i64 (if 100000<IntKind.wrap .i64 (IntKind.wrap .i64 (10*n12)+IntKind.wrap .i64 (IntKind.wrap .i32 (n23-48))) then 100000 else IntKind.wrap .i64 (IntKind.wrap .i64 (10*n12)+IntKind.wrap .i64 (IntKind.wrap .i32 (n23-48)))),.any),(18,.pL 0 0,.any)] [] [(0,.iter s20 k21)] m3))) (some (.inr (.exit 0,[.str s6,.int .i64 n9,.int .i64 n12],[],m3)))))) none
theorem vI s at_ n s1 k m:IZ s at_ n s1 k m=gK Pd (Fj s at_ n s1 k m):=(cz _ _).trans (congrArg (gK _) (by kernel_rfl))
noncomputable def zV (s:List UInt8) (at_ n:Int) (m:IM):Option LR:=fq .cm [.str s,.int .i64 (IntKind.wrap .i64 (at_+1))] fun v0=>fG .u8 v0 fun n1=>aL (n1==45) (some (.normal,[.str s,.int .i64 at_,.int .i64 (IntKind.wrap .i64 (0-n))],[],m)) (some (.normal,[.str s,.int .i64 at_,.int .i64 n],[],m))
noncomputable def Wl (s:List UInt8) (m:IM):Option (IV×IM):=an cw (.f 114) [.str s,.str [101,69]] [] m fun v0 m1=>fG .i64 v0 fun n2=>aL (decide (n2<0)) (settle m m1 (.db [.str s,.int .i64 0])) (fq (.bU true false) [.str s,.int .i64 (IntKind.wrap .i64 (n2+1))] fun v3=>gQ v3 fun s4=>an cw (.f 115) [.str s4,.str [43,45]] [] m1 fun v5 m6=>gQ v5 fun s7=>bn (IZ s n2 0 s7 0 m6) fun e8 l9 o10 m11=>fJ (.exit 0) e8 (c6 l9 fun v12 l13=>gQ v12 fun s14=>uI .i64 l13 fun n17 l16=>uI .i64 l16 fun n20 l19=>bj l19 (cB o10 (bn (zV s14 n17 n20 m11) fun e21 l22 o23 m24=>fJ .normal e21 (c6 l22 fun v25 l26=>gQ v25 fun s27=>uI .i64 l26 fun n30 l29=>uI .i64 l29 fun n33 l32=>bj l32 (cB o23 (fq (.bU false true) [.str s27,.int .i64 n30] fun v34=>gQ v34 fun s35=>settle m m24 (.db [.str s35,.int .i64 n33])))) none))) none)
theorem BK s m {res} (h:Wl s m=some res):cw (.f 86) [.str s] m=some res:=aJ rfl rfl ((by kernel_rfl:eL SN Xm i86 cw _ _=_).trans h)
def XW:gO:=js [(.one .sl,[0,5]),(.one .bool,[4,8]),(.one (.int .i64),[7])]
def Xn:Pl:=.z
noncomputable def Yj (s f:IV) (m:IM):Option (IV×IM):=an cw (.f 116) [s,f] [] m fun v0 m1=>fG .i64 v0 fun n2=>settle m m1 (.bool (decide (n2≥0)))
theorem IJ s f m {res} (h:Yj s f m=some res):cw (.f 87) [s,f] m=some res:=aJ rfl rfl ((by kernel_rfl:eL XW Xn i87 cw _ _=_).trans h)
def SO:gO:=js [(.one .sl,[0,4,5,8,14,18,19,21]),(.one .str,[7,13,16]),(.one (.int .i64),[9,10,20]),(.agg [.bool,.str,.int .i64],[17])]
def QA:XP:=[⟨(.exit 0),[(5,(.own 3))],[],[]⟩]
def Qe:Pl:=.z
def Xo:Pl:=(.n none .z (.n none .z (.n none (.n none .z (.n none (.n (some QA) Qe .z) .z)) .z)))
noncomputable def Pe:St→Option (St⊕LR):=fun s=>PQ.den SO cw (St⊕LR) Qe s (gM SO Pw QA)
noncomputable def vJ (f out v:IV) (n n1:Int) (m:IM):Option LR:=iter Pe (St.mk [(1,f,.any),(5,out,.own 3),(8,v,.any),(9,.int .i64 n,.any),(10,.int .i64 n1,.any)] [] [] m)
noncomputable def Fk (f out v:IV) (n n1:Int) (m:IM):Option (St⊕LR):=aL (decide (n1<n)) (fq (.aw 1) [v,.int .i64 n1] fun v0=>lD m false 1 v0 fun v1=>gQ v1 fun s2=>jS cw f [.str s2] [] m fun v3 m4=>iq v3 fun l5=>c6 l5 fun v6 l7=>gu v6 fun b8=>c6 l7 fun v9 l10=>gQ v9 fun s11=>uI .i64 l10 fun n14 l13=>bj l13 (j9 out 3 32 [.bool b8,.str s11,.int .i64 n14] 1 fun v15=>gg f [] (dk v15 (dk v (some (.inl (St.mk [(1,f,.any),(5,v15,.own 3),(8,v,.any),(9,.int .i64 n,.any),(10,.int .i64 (IntKind.wrap .i64 (n1+1)),.any)] [] [] m4))))))) (some (.inr (.exit 0,[out],[],m)))
theorem vK f out v n n1 m:vJ f out v n n1 m=gK Pe (Fk f out v n n1 m):=(cz _ _).trans (congrArg (gK _) (by kernel_rfl))
noncomputable def Yk (l f:IV) (m:IM):Option (IV×IM):=fq .ay [l] fun v0=>fG .i64 v0 fun n1=>gg f [] (dk l (bn (vJ f .aa l n1 0 m) fun e2 l3 o4 m5=>fJ (.exit 0) e2 (c6 l3 fun v6 l7=>bj l7 (cB o4 (settle m m5 v6))) none))
theorem IL l f m {res} (h:Yk l f m=some res):cw (.f 88) [l,f] m=some res:=aJ rfl rfl ((by kernel_rfl:eL SO Xo i88 cw _ _=_).trans h)
def XX:gO:=js [(.one .str,[0,4,6,7,9,11,13,16,18,21,23,24,26,27,28,29,30,31,32,36,38,41,44]),(.one .own,[2]),(.one (.int .i64),[3,14,37,39,40,42,43,45,46]),(.one .bool,[5,8,19,25,33,35]),(.db [.one .str,.one (.int .i64)],[10,12]),(.db [.one .str,.one .bool],[15,17]),(.db [.one .str,.one .str,.one .bool],[20,22]),(.agg [.bool,.str,.int .i64],[34,47])]
def Xp:Pl:=.z
noncomputable def Wm (s:List UInt8) (m:IM):Option (IV×IM):=an cw (.f 86) [.str s] [] m fun v0 m1=>jE v0 fun l2=>c6 l2 fun v3 l4=>gQ v3 fun s5=>uI .i64 l4 fun n8 l7=>bj l7 (an cw (.f 117) [.str s5,.str [45]] [] m1 fun v9 m10=>jE v9 fun l11=>c6 l11 fun v12 l13=>gQ v12 fun s14=>c6 l13 fun v15 l16=>gu v15 fun b17=>bj l16 (an cw (.f 118) [.str s14,.str [46]] [] m10 fun v18 m19=>jE v18 fun l20=>c6 l20 fun v21 l22=>gQ v21 fun s23=>c6 l22 fun v24 l25=>gQ v24 fun s26=>c6 l25 fun v27 l28=>gu v27 fun b29=>bj l28 (fq (.bin .add) [.str s23,.str s26] fun v30=>gQ v30 fun s31=>an cw (.f 115) [.str s31,.str [48]] [] m19 fun v32 m33=>gQ v32 fun s34=>an cw (.f 119) [.str s34,.str [48]] [] m33 fun v35 m36=>gQ v35 fun s37=>aL (s37==[]) (settle m m36 (.agg [.bool false,.str [],.int .i64 0])) (settle m m36 (.agg [.bool b17,.str s37,.int .i64 (IntKind.wrap .i64 (IntKind.wrap .i64 (IntKind.wrap .i64 (n8-(↑(List.length s26):Int))+(↑(List.length s34):Int))-(↑(List.length s37):Int)))])))))
theorem BL s m {res} (h:Wm s m=some res):cw (.f 89) [.str s] m=some res:=aJ rfl rfl ((by kernel_rfl:eL XX Xp i89 cw _ _=_).trans h)
def SP:gO:=js [(.one .sl,[0,6,12]),(.one .str,[1,11,15]),(.one (.int .i64),[4,5,7,8,10,13,17,18]),(.one .bool,[16])]
def QB:XP:=[⟨(.exit 0),[],[],[]⟩,⟨.ret,[(4,uA)],[],[]⟩]
def Qf:Pl:=.z
def Xq:Pl:=(.n none .z (.n none (.n none .z (.n none (.n (some QB) Qf .z) .z)) .z))
noncomputable def Pf:St→Option (St⊕LR):=fun s=>PS.den SP cw (St⊕LR) Qf s (gM SP Px QB)
noncomputable def Fx (s:IV) (v:List UInt8) (n n1:Int) (m:IM):Option LR:=iter Pf (St.mk [(0,s,.any),(1,.str v,.any),(7,.int .i64 n,.any),(8,.int .i64 n1,.any)] [] [] m)
noncomputable def Ii (s:IV) (v:List UInt8) (n n1:Int) (m:IM):Option (St⊕LR):=aL (decide (n1<n)) (fq (.aw 1) [s,.int .i64 n1] fun v0=>lD m false 1 v0 fun v1=>gQ v1 fun s2=>aL (v==s2) (some (.inr (.ret,[.int .i64 n1],[],m))) (dk s (some (.inl (St.mk [(0,s,.any),(1,.str v,.any),(7,.int .i64 n,.any),(8,.int .i64 (IntKind.wrap .i64 (n1+1)),.any)] [] [] m))))) (some (.inr (.exit 0,[],[],m)))
theorem BV s v n n1 m:Fx s v n n1 m=gK Pf (Ii s v n n1 m):=(cz _ _).trans (congrArg (gK _) (by kernel_rfl))
noncomputable def Yl (s:IV) (v:List UInt8) (m:IM):Option (IV×IM):=fq .ay [s] fun v0=>fG .i64 v0 fun n1=>dk s (bn (Fx s v n1 0 m) fun e2 l3 o4 m5=>fJ (.exit 0) e2 (bj l3 (cB o4 (settle m m5 (.int .i64 (-1))))) (fJ .ret e2 (uI .i64 l3 fun n8 l7=>bj l7 (cB o4 (settle m m5 (.int .i64 n8)))) none))
theorem IP s v m {res} (h:Yl s v m=some res):cw (.f 90) [s,.str v] m=some res:=aJ rfl rfl ((by kernel_rfl:eL SP Xq i90 cw _ _=_).trans h)
def XY:gO:=js [(.one .sl,[0,2,3,5,6,7]),(.one .bool,[4])]
def Xr:Pl:=.z
noncomputable def Wn (s:IV) (m:IM):Option (IV×IM):=fq (.eq false .slice) [s,.aa] fun v0=>gu v0 fun b1=>aL b1 (settle m m .aa) (tu m 1 s fun l2 k3=>iT l2 (jN (Nat.beq (List.length l2) (k3*1)) (jN (decide ((0+k3)*16≤aH∧List.length (dY [.str []] 0)=0*1)) (settle m m (.sl l2 (0+k3))))))
theorem BM s m {res} (h:Wn s m=some res):cw (.f 95) [s] m=some res:=aJ rfl rfl ((by kernel_rfl:eL XY Xr i95 cw _ _=_).trans h)
def SQ:gO:=js [(.one .sl,[0,4,5,8,14,18,19,21]),(.one .own,[7]),(.one (.int .i64),[9,10,20]),(.agg [.int .i64,.str,.sl,.sl],[13,16,17])]
def QC:XP:=[⟨(.exit 0),[(5,(.own 4))],[],[]⟩]
def Qg:Pl:=.z
def Xs:Pl:=(.n none .z (.n none .z (.n none (.n none .z (.n none (.n (some QC) Qg .z) .z)) .z)))
noncomputable def Pg:St→Option (St⊕LR):=fun s=>PT.den SQ cw (St⊕LR) Qg s (gM SQ Py QC)
noncomputable def Fy (f out v:IV) (n n1:Int) (m:IM):Option LR:=iter Pg (St.mk [(1,f,.any),(5,out,.own 4),(8,v,.any),(9,.int .i64 n,.any),(10,.int .i64 n1,.any)] [] [] m)
noncomputable def Fl (f out v:IV) (n n1:Int) (m:IM):Option (St⊕LR):=aL (decide (n1<n)) (fq (.aw 4) [v,.int .i64 n1] fun v0=>lD m true 4 v0 fun v1=>iq v1 fun l2=>uV l2 fun n5 s8 v9 v11 l12=>bj l12 (bf v9 (bf v11 (jS cw f [.agg [.int .i64 n5,.str s8,v9,v11]] [] m fun v13 m14=>iq v13 fun l15=>uV l15 fun n18 s21 v22 v24 l25=>bj l25 (mR v22 (mR v24 (mR v22 (mR v24 (j9 out 4 72 [.int .i64 n18,.str s21,v22,v24] 1 fun v26=>gg f [] (dk v26 (dk v (some (.inl (St.mk [(1,f,.any),(5,v26,.own 4),(8,v,.any),(9,.int .i64 n,.any),(10,.int .i64 (IntKind.wrap .i64 (n1+1)),.any)] [] [] m14)))))))))))))) (some (.inr (.exit 0,[out],[],m)))
theorem vL f out v n n1 m:Fy f out v n n1 m=gK Pg (Fl f out v n n1 m):=(cz _ _).trans (congrArg (gK _) (by kernel_rfl))
noncomputable def Wo (l f:IV) (m:IM):Option (IV×IM):=fq .ay [l] fun v0=>fG .i64 v0 fun n1=>gg f [] (dk l (bn (Fy f .aa l n1 0 m) fun e2 l3 o4 m5=>fJ (.exit 0) e2 (c6 l3 fun v6 l7=>bj l7 (cB o4 (settle m m5 v6))) none))
theorem BN l f m {res} (h:Wo l f m=some res):cw (.f 96) [l,f] m=some res:=aJ rfl rfl ((by kernel_rfl:eL SQ Xs i96 cw _ _=_).trans h)
def Ml:gO:=js [(.one .sl,[0,6,12]),(.one (.int .i64),[4,5,7,8,10,13,17,18]),(.agg [.int .i64,.str,.sl,.sl],[15]),(.one .bool,[16])]
def Mv:XP:=[⟨(.exit 0),[],[],[]⟩,⟨.ret,[(4,uA)],[],[]⟩]
def LC:Pl:=.z
def UM:Pl:=(.n none .z (.n none (.n none .z (.n none (.n (some Mv) LC .z) .z)) .z))
noncomputable def JM:St→Option (St⊕LR):=fun s=>KT.den Ml cw (St⊕LR) LC s (gM Ml Kh Mv)
noncomputable def oh (s f:IV) (n n1:Int) (m:IM):Option LR:=iter JM (St.mk [(0,s,.any),(1,f,.any),(7,.int .i64 n,.any),(8,.int .i64 n1,.any)] [] [] m)
noncomputable def zE (s f:IV) (n n1:Int) (m:IM):Option (St⊕LR):=aL (decide (n1<n)) (fq (.aw 4) [s,.int .i64 n1] fun v0=>lD m true 4 v0 fun v1=>iq v1 fun l2=>uV l2 fun n5 s8 v9 v11 l12=>bj l12 (jS cw f [.agg [.int .i64 n5,.str s8,v9,v11]] [] m fun v13 m14=>gu v13 fun b15=>aL b15 (some (.inr (.ret,[.int .i64 n1],[],m14))) (dk s (gg f [] (some (.inl (St.mk [(0,s,.any),(1,f,.any),(7,.int .i64 n,.any),(8,.int .i64 (IntKind.wrap .i64 (n1+1)),.any)] [] [] m14))))))) (some (.inr (.exit 0,[],[],m)))
theorem yE s f n n1 m:oh s f n n1 m=gK JM (zE s f n n1 m):=(cz _ _).trans (congrArg (gK _) (by kernel_rfl))
noncomputable def QF (s f:IV) (m:IM):Option (IV×IM):=fq .ay [s] fun v0=>fG .i64 v0 fun n1=>dk s (gg f [] (bn (oh s f n1 0 m) fun e2 l3 o4 m5=>fJ (.exit 0) e2 (bj l3 (cB o4 (settle m m5 (.int .i64 (-1))))) (fJ .ret e2 (uI .i64 l3 fun n8 l7=>bj l7 (cB o4 (settle m m5 (.int .i64 n8)))) none)))
theorem yz s f m {res} (h:QF s f m=some res):cw (.f 116) [s,f] m=some res:=aJ rfl rfl ((by kernel_rfl:eL Ml UM i116 cw _ _=_).trans h)
def Vx:gO:=js [(.one .str,[0,1,4,6,7,9]),(.one .bool,[5,10]),(.db [.one .str,.one .bool],[8])]
def UN:Pl:=.z
noncomputable def Tw (s prefix_:List UInt8) (m:IM):Option (IV×IM):=an cw (.f 143) [.str s,.str prefix_] [] m fun v0 m1=>jE v0 fun l2=>c6 l2 fun v3 l4=>gQ v3 fun s5=>c6 l4 fun v6 l7=>gu v6 fun b8=>bj l7 (settle m m1 (.db [.str s5,.bool b8]))
theorem GM s prefix_ m {res} (h:Tw s prefix_ m=some res):cw (.f 117) [.str s,.str prefix_] m=some res:=aJ rfl rfl ((by kernel_rfl:eL Vx UN i117 cw _ _=_).trans h)
def Vy:gO:=js [(.one .str,[0,1,4,5,7,8,10,11]),(.one .bool,[6,12]),(.db [.one .str,.one .str,.one .bool],[9])]
def UO:Pl:=.z
noncomputable def Tx (s sep:List UInt8) (m:IM):Option (IV×IM):=an cw (.f 144) [.str s,.str sep] [] m fun v0 m1=>jE v0 fun l2=>c6 l2 fun v3 l4=>gQ v3 fun s5=>c6 l4 fun v6 l7=>gQ v6 fun s8=>c6 l7 fun v9 l10=>gu v9 fun b11=>bj l10 (settle m m1 (.db [.str s5,.str s8,.bool b11]))
theorem GN s sep m {res} (h:Tx s sep m=some res):cw (.f 118) [.str s,.str sep] m=some res:=aJ rfl rfl ((by kernel_rfl:eL Vy UO i118 cw _ _=_).trans h)
def VF:gO:=js [(.one .str,[0,1,4,6,7,10,11,12,14]),(.one .bool,[5,8,9]),(.one (.int .i64),[13])]
def UW:Pl:=.z
noncomputable def QH (s prefix_:List UInt8) (m:IM):Option (IV×IM):=an cw (.f 122) [.str s,.str prefix_] [] m fun v0 m1=>gu v0 fun b2=>aL (!b2) (settle m m1 (.db [.str s,.bool false])) (fq (.bU true false) [.str s,.int .i64 (↑(List.length prefix_):Int)] fun v3=>gQ v3 fun s4=>settle m m1 (.db [.str s4,.bool true]))
theorem GU s prefix_ m {res} (h:QH s prefix_ m=some res):cw (.f 143) [.str s,.str prefix_] m=some res:=aJ rfl rfl ((by kernel_rfl:eL VF UW i143 cw _ _=_).trans h)
def VG:gO:=js [(.one .str,[0,1,4,5,8,9,13,15,16,18,21,22]),(.one .bool,[6,12]),(.one (.int .i64),[7,10,11,14,17,19,20])]
def UX:Pl:=.z
noncomputable def QI (s sep:List UInt8) (m:IM):Option (IV×IM):=an cw (.f 159) [.str s,.str sep] [] m fun v0 m1=>fG .i64 v0 fun n2=>aL (decide (n2≥0)) (fq (.bU false true) [.str s,.int .i64 n2] fun v3=>gQ v3 fun s4=>fq (.bU true false) [.str s,.int .i64 (IntKind.wrap .i64 (n2+(↑(List.length sep):Int)))] fun v5=>gQ v5 fun s6=>settle m m1 (.db [.str s4,.str s6,.bool true])) (settle m m1 (.db [.str s,.str [],.bool false]))
theorem yB s sep m {res} (h:QI s sep m=some res):cw (.f 144) [.str s,.str sep] m=some res:=aJ rfl rfl ((by kernel_rfl:eL VG UX i144 cw _ _=_).trans h)
end
theorem Ns (b:ByteArray) (k:Nat):1≤(Utf8.decode b k).2:=by
 rw[Utf8.decode.eq_1];simp only[]
 repeat' split
 all_goals simp
theorem wX (cs:List UInt8):∀(l:List UInt8) (k:Nat),kD cs l k=-1∨∃q c,l[q]?=some c∧yg c cs=true∧kD cs l k=((k+q:Nat):Int)
 |[],k=>.inl rfl
 |b::r,k=>by
  rw[kD]
  cases h:yg b cs with
  |true=>exact .inr ⟨0,b,rfl,h,rfl⟩
  |false =>
   rcases wX cs r (k+1) with e | ⟨q,c,e1,e2,e3⟩
   ·exact .inl e
   ·refine .inr ⟨q+1,c,by simpa using e1,e2,?_⟩;simp only;rw[e3];congr 1;omega
theorem Nb (s:List UInt8) (h:jQ s=true) (hl:s.length≤100000) (m:IM):cw (.f 114) [.str s,.str [101,69]] m=some (.int .i64 (kD [101,69] s 0),m):=by
 unfold cw;rw[jv (p:=np) rfl];have h1:Nat.blt s.length 4294967281=true:=by rw[Nat.blt_eq];omega
 have h2:jQ [101,69]=true:=by decide
 simp[np,h,h1,h2];rfl
theorem FK (s cs:List UInt8) (h:jQ cs=true) (hl:cs.length≤100) (m:IM):cw (.f 115) [.str s,.str cs] m=some (.str (MP cs s),m):=by
 unfold cw;rw[jv (p:=nq) rfl];have h1:Nat.blt cs.length 4294967281=true:=by rw[Nat.blt_eq];omega
 simp[nq,h,h1]
theorem Nc (s cs:List UInt8) (h:jQ cs=true) (hl:cs.length≤100) (hs:s.length≤100000) (m:IM):cw (.f 119) [.str s,.str cs] m=some (.str (Ql cs s),m):=by
 unfold cw;rw[jv (p:=mj) rfl];have h1:Nat.blt cs.length 4294967281=true:=by rw[Nat.blt_eq];omega
 have h2:Nat.ble s.length 9223372036854775807=true:=by rw[Nat.ble_eq];omega
 simp[mj,h,h1,h2]
theorem T2 (t u:List UInt8) (q:Int):∀(j k:Nat) (n:Int),u.length≤k+j→∃n':Int,∀m,IZ t q n u k m=some (.exit 0,[.str t,.int .i64 q,.int .i64 n'],[],m)
 |0,k,n,h=>by
  have c1:¬k<u.length:=by omega
  refine⟨n,fun m=>?_⟩;rw[vI];simp[Fj,zU,go_sem,c1]
 |j+1,k,n,h=>by
  by_cases c1:k<u.length
  ·have hp:=Ns ⟨⟨u⟩⟩ k;obtain⟨n',hn⟩:=T2 t u q j (k+(Utf8.decode ⟨⟨u⟩⟩ k).2) (if 100000<IntKind.wrap .i64 (IntKind.wrap .i64 (10*n)+IntKind.wrap .i64 (IntKind.wrap .i32 ((((Utf8.decode ⟨⟨u⟩⟩ k).1:Nat):Int)-48))) then 100000 else IntKind.wrap .i64 (IntKind.wrap .i64 (10*n)+IntKind.wrap .i64 (IntKind.wrap .i32 ((((Utf8.decode ⟨⟨u⟩⟩ k).1:Nat):Int)-48)))) (by omega);refine⟨n',fun m=>?_⟩;rw[←hn m,vI];simp only[Fj,zU,go_sem,c1,decide_true,if_true,fq,dW.ev,List.getElem?_cons_succ,List.getElem?_cons_zero];rfl
  ·refine⟨n,fun m=>?_⟩;rw[vI];simp[Fj,zU,go_sem,c1]
theorem Vt (s:List UInt8) (a:Nat) (h:a≤s.length):dW.ev (.bU false true) [.str s,.int .i64 (a:Int)]=some (.str (s.take a)):=by
 have c2:(a:Int)≤(s.length:Int):=by omega
 have c3:(0:Int)≤(a:Int):=by omega
 simp[dW.ev,f9,fO,mx,c2,c3]
theorem O5 (t:List UInt8) (h:(gf t 0).2=true) (he:(gf t 0).1=t.length) (hl:t.length≤1000):∃(a:List UInt8) (n:Int),a.length≤t.length∧∀m,cw (.f 86) [.str t] m=some (.db [.str a,.int .i64 n],m):=by
 obtain⟨ha,c0,hc0,hd0⟩:=HQ h he;have h114:=Nb t ha (by omega);rcases wX [101,69] t 0 with e | ⟨q,c,e1,e2,e3⟩
 ·refine⟨t,0,Nat.le_refl _,fun m=>?_⟩;have q1:=fun (K:IV→IM→Option (IV×IM))=>ae (h114 m) (by simp[go_sem]) K;rw[e] at q1;apply BK;simp[Wl,go_sem,q1]
 ·rw[Nat.zero_add] at e3;have hq:=dP e1;have hnd:fS c=false:=by
   simp only[yg,Bool.or_eq_true,Nat.beq_eq,Bool.or_false] at e2;unfold fS;rw[Bool.and_eq_false_iff];right;rw[decide_eq_false_iff_not];rcases e2 with e2 | e2
   ·have:(101:UInt8).toNat=101:=rfl;omega
   ·have:(69:UInt8).toNat=69:=rfl;omega
  have hq2:q+1<t.length:=by
   by_cases g:q=t.length-1
   ·subst g;rw[e1] at hc0;cases hc0;rw[hnd] at hd0;cases hd0
   ·omega
  have hw:IntKind.i64.wrap (((q:Nat):Int)+1)=((q+1:Nat):Int):=by rw[w64 (by omega) (by omega)];rfl
  have h1:=H4 t (q+1) (by omega);have h2:=Vt t q (by omega);obtain⟨n',hn⟩:=T2 t (MP [43,45] (t.drop (q+1))) (q:Int) (MP [43,45] (t.drop (q+1))).length 0 0 (by omega);have hx:=Cp (s:=t) (i:=q+1) (List.getElem?_eq_getElem hq2);have c1:¬((q:Nat):Int)<0:=by omega
  have hcut:∃n2:Int,∀m,zV t (q:Int) n' m=some (.normal,[.str t,.int .i64 (q:Int),.int .i64 n2],[],m):=by
   by_cases g:(((t[q+1].toNat:Nat):Int)==45)=true
   ·exact⟨IntKind.i64.wrap (0-n'),fun m=>by simp only[zV,hw,au hx,go_sem,g,if_true]⟩
   ·exact⟨n',fun m=>by simp only[zV,hw,au hx,go_sem,g,Bool.false_eq_true,if_false]⟩
  obtain⟨n2,hn2⟩:=hcut;refine⟨t.take q,n2,by rw[List.length_take];omega,fun m=>?_⟩;have q1:=fun (K:IV→IM→Option (IV×IM))=>ae (h114 m) (by simp[go_sem]) K;have q2:=fun (K:IV→IM→Option (IV×IM))=>ae (FK (t.drop (q+1)) [43,45] (by decide) (by simp) m) (by simp[go_sem]) K;rw[e3] at q1;apply BK;simp only[Wl,q1,go_sem,c1,decide_false,Bool.false_eq_true,if_false,hw,au h1,q2,hn,hn2,au h2,if_true];exact av rfl
theorem Nq (s:List UInt8) (c:UInt8) (m:IM):cw (.f 117) [.str s,.str [c]] m=some (.db [.str (if s.head?=some c then s.drop 1 else s),.bool (s.head?==some c)],m):=by
 have q1:=fun (K:IV→IM→Option (IV×IM))=>ae (yW s c m) (by simp[go_sem]) K;have h143:cw (.f 143) [.str s,.str [c]] m=some (.db [.str (if s.head?=some c then s.drop 1 else s),.bool (s.head?==some c)],m):=by
  apply GU;by_cases g:s.head?=some c
  ·have hl:1≤s.length:=by
    cases s with
    |nil=>cases g
    |cons a r=>simp
   have h1:=H4 s 1 hl;have h1:dW.ev (.bU true false) [.str s,.int .i64 (([c]:List UInt8).length:Int)]=some (.str (s.drop 1)):=h1;have gb:(s.head?==some c)=true:=by rw[g];simp
   rw[gb] at q1 ⊢;rw[if_pos g];simp only[QH,q1,go_sem,Bool.not_true,Bool.false_eq_true,if_false,au h1];exact av rfl
  ·have gb:(s.head?==some c)=false:=by
    cases hb:s.head?==some c with
    |false=>rfl
    |true=>exact (g (by simpa using hb)).elim
   rw[gb] at q1 ⊢;rw[if_neg g];simp only[QH,q1,go_sem,Bool.not_false,if_true];exact av rfl
 have q2:=fun (K:IV→IM→Option (IV×IM))=>ae h143 (by simp[go_sem]) K;apply GM;simp only[Tw,q2,go_sem];exact av rfl
theorem Co (c:UInt8):∀(l:List UInt8) (k:Nat),jV c l k=-1∨∃q,q<l.length∧jV c l k=((k+q:Nat):Int)
 |[],k=>.inl rfl
 |b::r,k=>by
  rw[jV]
  cases h:b==c with
  |true=>exact .inr ⟨0,by simp,rfl⟩
  |false =>
   rcases Co c r (k+1) with e | ⟨q,e1,e3⟩
   ·exact .inl e
   ·refine .inr ⟨q+1,by simpa using e1,?_⟩;simp only;rw[e3];congr 1;omega
theorem Rg (s:List UInt8) (c:UInt8) (hs:s.length≤100000):∃(a b:List UInt8) (f:Bool),a.length+b.length≤s.length∧∀m,cw (.f 118) [.str s,.str [c]] m=some (.db [.str a,.str b,.bool f],m):=by
 have h159:∀m,cw (.f 159) [.str s,.str [c]] m=some (.int .i64 (jV c s 0),m):=by intro m;unfold cw;rw[jv (p:=rV) rfl];simp[rV]
 have main:∃(a b:List UInt8) (f:Bool),a.length+b.length≤s.length∧∀m,cw (.f 144) [.str s,.str [c]] m=some (.db [.str a,.str b,.bool f],m):=by
  rcases Co c s 0 with e | ⟨q,hq,e3⟩
  ·refine⟨s,[],false,by simp,fun m=>?_⟩;have q1:=fun (K:IV→IM→Option (IV×IM))=>ae (h159 m) (by simp[go_sem]) K;rw[e] at q1;apply yB;simp only[QI,q1,go_sem];exact av rfl
  ·rw[Nat.zero_add] at e3;refine⟨s.take q,s.drop (q+1),true,by simp;omega,fun m=>?_⟩;have q1:=fun (K:IV→IM→Option (IV×IM))=>ae (h159 m) (by simp[go_sem]) K;rw[e3] at q1;have c1:((q:Nat):Int)≥0:=by omega
   have hw:IntKind.i64.wrap (((q:Nat):Int)+(([c]:List UInt8).length:Int))=((q+1:Nat):Int):=by show IntKind.i64.wrap (((q:Nat):Int)+1)=_;rw[w64 (by omega) (by omega)];rfl
   have h1:=Vt s q (by omega);have h2:=H4 s (q+1) (by omega);apply yB;simp only[QI,q1,go_sem,c1,decide_true,if_true,au h1,hw,au h2];exact av rfl
 obtain⟨a,b,f,hl,h144⟩:=main;refine⟨a,b,f,hl,fun m=>?_⟩;have q2:=fun (K:IV→IM→Option (IV×IM))=>ae (h144 m) (by simp[go_sem]) K;apply GN;simp only[Tx,q2,go_sem];exact av rfl
theorem GF (cs:List UInt8):∀l:List UInt8,(MP cs l).length≤l.length
 |[]=>Nat.le_refl _
 |b::r=>by
  rw[MP];have:=GF cs r
  cases yg b cs<;>simp only[List.length_cons]<;>omega
theorem Lt (t:List UInt8) (h:(gf t 0).2=true) (he:(gf t 0).1=t.length) (hl:t.length≤1000):∃(b:Bool) (s:List UInt8) (n:Int),∀m,cw (.f 89) [.str t] m=some (.agg [.bool b,.str s,.int .i64 n],m):=by
 obtain⟨a,n,hal,h86⟩:=O5 t h he hl;have h117:=Nq a 45;have hd:(if a.head?=some 45 then a.drop 1 else a).length≤1000:=by
  split
  ·rw[List.length_drop];omega
  ·omega
 generalize (if a.head?=some 45 then a.drop 1 else a)=a2 at *;obtain⟨w,f,b3,hwf,h118⟩:=Rg a2 46 (by omega);have hml:aH=1099511627776:=rfl;have hadd:dW.ev (.bin .add) [.str w,.str f]=some (.str (w++f)):=by
  have:w.length+f.length≤aH:=by omega
  simp[dW.ev,eX,iw,dN,this]
 have hL:=GF [48] (w++f);rw[List.length_append] at hL;have hx:=fun m=>FK (w++f) [48] (by decide) (by simp) m;generalize MP [48] (w++f)=x at *;have hy:=fun m=>Nc x [48] (by decide) (by simp) (by omega) m;generalize Ql [48] x=y at *;by_cases g:y=[]
 ·refine⟨false,[],0,fun m=>?_⟩;have q1:=fun (K:IV→IM→Option (IV×IM))=>ae (h86 m) (by simp[go_sem]) K;have q2:=fun (K:IV→IM→Option (IV×IM))=>ae (h117 m) (by simp[go_sem]) K;have q3:=fun (K:IV→IM→Option (IV×IM))=>ae (h118 m) (by simp[go_sem]) K;have q4:=fun (K:IV→IM→Option (IV×IM))=>ae (hx m) (by simp[go_sem]) K;have q5:=fun (K:IV→IM→Option (IV×IM))=>ae (hy m) (by simp[go_sem]) K;have gb:(y==[])=true:=by rw[g];rfl
  apply BL;simp only[Wm,q1,go_sem,q2,q3,au hadd,q4,q5,gb,if_true];exact av rfl
 ·refine⟨a.head?==some 45,y,IntKind.wrap .i64 (IntKind.wrap .i64 (IntKind.wrap .i64 (n-(f.length:Int))+(x.length:Int))-(y.length:Int)),fun m=>?_⟩;have q1:=fun (K:IV→IM→Option (IV×IM))=>ae (h86 m) (by simp[go_sem]) K;have q2:=fun (K:IV→IM→Option (IV×IM))=>ae (h117 m) (by simp[go_sem]) K;have q3:=fun (K:IV→IM→Option (IV×IM))=>ae (h118 m) (by simp[go_sem]) K;have q4:=fun (K:IV→IM→Option (IV×IM))=>ae (hx m) (by simp[go_sem]) K;have q5:=fun (K:IV→IM→Option (IV×IM))=>ae (hy m) (by simp[go_sem]) K;have gb:(y==[])=false:=by
   cases y with
   |nil=>exact (g rfl).elim
   |cons c r=>rfl
  apply BL;simp only[Wm,q1,go_sem,q2,q3,au hadd,q4,q5,gb,Bool.false_eq_true,if_false];exact av rfl
theorem pj {R:Type}{f:Nat}{vs:List IV}{m m':IM}{v:IV}(h:cw (.f f) vs m=some (v,m')) (hr:(aC (vs.flatMap IV.cells)).isSome=true) (K:IV→IM→Option R):jS cw (.func f [] []) vs [] m K=K v m':=by show an cw (.f f) ([]++vs++[]) [] m K=_;rw[List.nil_append,List.append_nil];exact ae h hr K
theorem jX {R:Type}(f:Nat) (X:Option R):gg (.func f [] []) [] X=X:=rfl
theorem nQ {R:Type}(l:List IV) (n:Nat) (X:Option R):dk (.sl l n) X=X:=rfl
theorem UB (a b:List UInt8) (x1 x2:Bool) (y1 y2:List UInt8) (z1 z2:Int) (h1:∀m,cw (.f 89) [.str a] m=some (.agg [.bool x1,.str y1,.int .i64 z1],m)) (h2:∀m,cw (.f 89) [.str b] m=some (.agg [.bool x2,.str y2,.int .i64 z2],m)) (m:IM) :
  cw (.f 88) [.sl [.str a,.str b] 2,.func 89 [] []] m=some (.sl [.bool x1,.str y1,.int .i64 z1,.bool x2,.str y2,.int .i64 z2] 2,m):=by
 have q1:=fun (K:IV→IM→Option (St⊕LR))=>pj (h1 m) (by simp[go_sem]) K;have q2:=fun (K:IV→IM→Option (St⊕LR))=>pj (h2 m) (by simp[go_sem]) K;have i0:dW.ev (.aw 1) [.sl [.str a,.str b] 2,.int .i64 0]=some (.pI [.str a,.str b] 0):=rfl;have i1:dW.ev (.aw 1) [.sl [.str a,.str b] 2,.int .i64 1]=some (.pI [.str a,.str b] 1):=rfl;have l0:dW.ev .ay [.sl [.str a,.str b] 2]=some (.int .i64 2):=rfl;have a0:∀(xs:List IV) (K:IV→Option (St⊕LR)),j9 .aa 3 32 xs 1 K=K (.sl xs 1):=fun xs K=>by simp[j9,bg,bO,aH]
 have a1:∀(xs:List IV) (K:IV→Option (St⊕LR)),j9 (.sl [.bool x1,.str y1,.int .i64 z1] 1) 3 32 xs 1 K=K (.sl ([.bool x1,.str y1,.int .i64 z1]++xs) 2):=fun xs K=>by simp[j9,bg,bO,aH]
 have w0:IntKind.i64.wrap (0+1)=1:=by decide
 have w1:IntKind.i64.wrap (1+1)=2:=by decide
 have s3:vJ (.func 89 [] []) (.sl [.bool x1,.str y1,.int .i64 z1,.bool x2,.str y2,.int .i64 z2] 2) (.sl [.str a,.str b] 2) 2 2 m=some (.exit 0,[.sl [.bool x1,.str y1,.int .i64 z1,.bool x2,.str y2,.int .i64 z2] 2],[],m):=by
  have c:¬(2:Int)<2:=by omega
  rw[vK];simp only[Fk,go_sem,c,decide_false,Bool.false_eq_true,if_false]
 have s2:vJ (.func 89 [] []) (.sl [.bool x1,.str y1,.int .i64 z1] 1) (.sl [.str a,.str b] 2) 2 1 m=vJ (.func 89 [] []) (.sl [.bool x1,.str y1,.int .i64 z1,.bool x2,.str y2,.int .i64 z2] 2) (.sl [.str a,.str b] 2) 2 2 m:=by
  have c:(1:Int)<2:=by omega
  have hc:∀K:IV→Option (St⊕LR),eV false [.str a,.str b] 1 1 K=K (.str b):=fun K=>rfl;rw[vK];simp only[Fk,go_sem,c,decide_true,if_true,au i1,hc,q2,a1,jX,nQ,w1];rfl
 have s1:vJ (.func 89 [] []) .aa (.sl [.str a,.str b] 2) 2 0 m=vJ (.func 89 [] []) (.sl [.bool x1,.str y1,.int .i64 z1] 1) (.sl [.str a,.str b] 2) 2 1 m:=by
  have c:(0:Int)<2:=by omega
  have hc:∀K:IV→Option (St⊕LR),eV false [.str a,.str b] 0 1 K=K (.str a):=fun K=>rfl;rw[vK];simp only[Fk,go_sem,c,decide_true,if_true,au i0,hc,q1,a0,jX,nQ,w0];rfl
 apply IL;simp only[Yk,au l0,go_sem,jX,nQ,s1,s2,s3,if_true]
theorem NK {K:IV}{ks:List (List UInt8)}(hK:mU K ks) (hn:ks.Nodup) (hb:ks.length≤1000000) (j0:Nat) (hj:j0<ks.length) (m:IM):cw (.f 90) [K,.str ks[j0]] m=some (.int .i64 (j0:Int),m):=by
 have hl:=pf hK;have main:∀(j i:Nat),j0=i+j→Fx K ks[j0] (ks.length:Int) (i:Int) m=some (.ret,[.int .i64 (j0:Int)],[],m):=by
  intro j
  induction j with
  |zero =>
   intro i hi;have:i=j0:=by omega
   subst this;have c:(i:Int)<(ks.length:Int):=by omega
   rcases hK with ⟨rfl,rfl⟩ | rfl
   ·simp at hj
   ·have r1:(ks.map IV.str)[i*1]?=some (.str ks[i]):=by simp[hj]
    have gb:(ks[i]==ks[i])=true:=by simp
    rw[BV];simp only[Ii,go_sem,c,decide_true,if_true,au (NI hj),dD r1,gb]
  |succ j ih =>
   intro i hi;have hik:i<ks.length:=by omega
   have c:(i:Int)<(ks.length:Int):=by omega
   have hw:IntKind.i64.wrap ((i:Int)+1)=((i+1:Nat):Int):=by rw[w64 (by omega) (by omega)];rfl
   have h:=ih (i+1) (by omega);rcases hK with ⟨rfl,rfl⟩ | rfl
   ·simp at hj
   ·have r1:(ks.map IV.str)[i*1]?=some (.str ks[i]):=by simp[hik]
    have gb:(ks[j0]==ks[i])=false:=by rw[beq_eq_false_iff_ne];intro e;have:=(List.getElem_inj hn).1 e;omega
    rw[←h];generalize i+1=i2 at *;rw[BV];simp only[Ii,go_sem,c,decide_true,if_true,au (NI hik),dD r1,gb,Bool.false_eq_true,if_false,nQ,hw];rfl
 have h0:Fx K ks[j0] (ks.length:Int) 0 m=_:=main j0 0 (by omega);have hnl:∀X:Option (IV×IM),dk K X=X:=fun X=>iB hK.refs X;apply IP;simp only[Yl,au hl,go_sem,hnl,h0];rfl
def QM (v:dL):Prop:=∃b:Bool,∀c,gh v c→∀m,cw (.f 59) [.agg c] m=some (.bool b,m)
theorem TP (vs:List dL) (hn:vs.length≤1000000) (ih:∀v,v∈vs→QM v):∀(j i:Nat),vs.length=i+j →
  (∃i0:Nat,∀V,mL V vs→∀m,oh V (.func 59 [] []) (vs.length:Int) (i:Int) m=some (.ret,[.int .i64 (i0:Int)],[],m))∨(∀V,mL V vs→∀m,oh V (.func 59 [] []) (vs.length:Int) (i:Int) m=some (.exit 0,[],[],m)):=by
 intro j
 induction j with
 |zero =>
  intro i hi;have c:¬(i:Int)<(vs.length:Int):=by omega
  refine .inr fun V hV m=>?_;rw[yE];simp only[zE,go_sem,c,decide_false,Bool.false_eq_true,if_false]
 |succ j IH =>
  intro i hi;have hiv:i<vs.length:=by omega
  have c:(i:Int)<(vs.length:Int):=by omega
  have hw:IntKind.i64.wrap ((i:Int)+1)=((i+1:Nat):Int):=by rw[w64 (by omega) (by omega)];rfl
  obtain⟨b,hb⟩:=ih vs[i] (List.getElem_mem hiv);have step:∀V,mL V vs→∀m,oh V (.func 59 [] []) (vs.length:Int) (i:Int) m=if b=true then some (.ret,[.int .i64 (i:Int)],[],m) else oh V (.func 59 [] []) (vs.length:Int) ((i+1:Nat):Int) m:=by
   intro V hV m
   cases hV with
   |nil=>simp at hiv
   | @sl _ row nn hr hnn =>
    obtain⟨cc,hc,hcut⟩:=hr.get i hiv;have hcall:=hb cc hc m;obtain⟨k',t',K',V',rfl,hK',hV',_,_⟩:=hc.cells;have h1:=fun K2:IV→IM→Option (St⊕LR)=>pj hcall (by simp[go_sem,hK',hV']) K2;have hin:i<nn:=by omega
    rw[yE];generalize i+1=i2 at *
    cases b with
    |true=>simp only[zE,go_sem,c,decide_true,if_true,au (ur hin),gi hcut,h1]
    |false =>simp only[zE,go_sem,c,decide_true,if_true,au (ur hin),gi hcut,h1,Bool.false_eq_true,if_false,nQ,jX,hw];rfl
  cases b with
  |true=>exact .inl ⟨i,fun V hV m=>by rw[step V hV m,if_pos rfl]⟩
  |false =>
   rcases IH (i+1) (by omega) with ⟨i0,h⟩ | h
   ·exact .inl ⟨i0,fun V hV m=>by rw[step V hV m,if_neg (by decide)];exact h V hV m⟩
   ·exact .inr fun V hV m=>by rw[step V hV m,if_neg (by decide)];exact h V hV m
theorem Uj (vs:List dL) (hn:vs.length≤1000000) (ih:∀v,v∈vs→QM v):∃b:Bool,∀V,mL V vs→∀m,cw (.f 87) [V,.func 59 [] []] m=some (.bool b,m):=by
 have up:∀(V:IV) (hV:mL V vs) (m:IM) (n:Int),cw (.f 116) [V,.func 59 [] []] m=some (.int .i64 n,m)→cw (.f 87) [V,.func 59 [] []] m=some (.bool (decide (n≥0)),m):=by intro V hV m n h;have h1:=fun K2:IV→IM→Option (IV×IM)=>ae h (by cases hV<;>rfl) K2;apply IJ;simp only[Yj,h1,go_sem]
 rcases TP vs hn ih vs.length 0 (by omega) with ⟨i0,h⟩ | h
 ·refine⟨true,fun V hV m=>?_⟩;have h0:oh V (.func 59 [] []) (vs.length:Int) 0 m=_:=h V hV m;have hnl:∀X:Option (IV×IM),dk V X=X:=fun X=>iB hV.refs X;have:=up V hV m (i0:Int) (by
   apply yz;simp only[QF,au hV.len,go_sem,hnl,jX,h0];rfl)
  have e:((i0:Nat):Int)≥0:=by omega
  rw[decide_eq_true e] at this;exact this
 ·refine⟨false,fun V hV m=>?_⟩;have h0:oh V (.func 59 [] []) (vs.length:Int) 0 m=_:=h V hV m;have hnl:∀X:Option (IV×IM),dk V X=X:=fun X=>iB hV.refs X;exact up V hV m (-1) (by
   apply yz;simp only[QF,au hV.len,go_sem,hnl,jX,h0,if_true])
theorem J4:∀(d:Nat) (v:dL) (lv:Int),H0 d lv v→sk v→QM v
 |0,v,lv,h,_=>by cases h
 |d+1,.mk k t ks vs,lv,h,ho=>by
  cases h with
  |mk hlv hown hall =>
   cases ho with
   |mk p1 p2 p3 p4 p5 =>
    obtain⟨b,hb⟩:=Uj vs p5 (fun v hv=>J4 d v (lv+1) (hall v hv) (Bx.mem p4 hv));have hc0:∃n:Int,∀(K V:IV) (m:IM),zR 0 k t K V m=some (.normal,[.int .i64 n],[.cells [.int .i64 k,.str t,K,V] [.any,.any,.any,.any]],m):=by
     by_cases g:k=2
     ·subst g;obtain⟨_,_,o3,o4,_⟩:=jZ hown;obtain⟨ht,_⟩:=jU o3;unfold iz at ht;rw[if_neg (by decide),if_pos rfl,Bool.and_eq_true,decide_eq_true_eq] at ht;obtain⟨a,n,_,h86⟩:=O5 t ht.1 ht.2 o4;refine⟨n,fun K V m=>?_⟩;have q1:=fun (K2:IV→IM→Option LR)=>ae (h86 m) (by simp[go_sem]) K2;have c:((2:Int)==2)=true:=rfl;simp only[zR,c,go_sem,if_true,q1]
     ·refine⟨0,fun K V m=>?_⟩;have c:(k==2)=false:=by simpa using g
      simp only[zR,c,go_sem,Bool.false_eq_true,if_false]
    obtain⟨n,hn⟩:=hc0;have hc1:∃b2:Bool,∀(K V:IV) (m:IM),mL V vs→vm n k t K V m=some (.normal,[.bool b2],[],m):=by
     by_cases g:n>400
     ·exact⟨true,fun K V m hV=>by simp only[vm,g,decide_true,go_sem,if_true]⟩
     ·by_cases g2:n < -400
      ·exact⟨true,fun K V m hV=>by simp only[vm,g,g2,decide_true,decide_false,go_sem,Bool.false_eq_true,if_false,if_true]⟩
      ·refine⟨b,fun K V m hV=>?_⟩;have q:=fun (K2:IV→IM→Option LR)=>ae (hb V hV m) (by cases hV<;>rfl) K2;simp only[vm,g,g2,decide_false,go_sem,Bool.false_eq_true,if_false,q]
    obtain⟨b2,h2⟩:=hc1;refine⟨b2,fun c hc m=>?_⟩
    cases hc with
    | @mk _ _ _ _ K V hK hV =>apply IA;simp only[Ye,af hK.refs,af hV.refs,hn,go_sem,h2 K V m hV,if_true]
theorem N4 {L:List Nat}{n:Nat}(hp:L.Perm (List.range n)) {i:Nat}(hi:i<n):∃j,∃h:j<L.length,L[j]=i:=by have:i∈L:=hp.mem_iff.2 (List.mem_range.2 hi);exact List.getElem_of_mem this
theorem Sm (so:Bool) {k:Int}{ks:List (List UInt8)}{vs:List dL}{i:Nat}(hi:i<vs.length) (hk:k=5→ks.length=vs.length) :
  ∃j:Nat,(k≠5→j=i)∧((ib so k ks vs.length).map fun i=>(lq so vs).getD i default)[j]?=some (qb so vs[i])∧(k=5→((ib so k ks vs.length).map fun i=>ks.getD i [])[j]?=some (ks.getD i [])):=by
 by_cases g:k=5
 ·obtain⟨j,hj,e⟩:=N4 (pG so k ks vs.length) hi;refine⟨j,fun q=>(q g).elim,?_,fun _=>?_⟩
  ·rw[List.getElem?_map,List.getElem?_eq_getElem hj,e,Option.map_some,lM so vs i hi]
  ·rw[List.getElem?_map,List.getElem?_eq_getElem hj,e,Option.map_some]
 ·have e:ib so k ks vs.length=List.range vs.length:=by unfold ib;simp[g]
  refine⟨i,fun _=>rfl,?_,fun q=>(g q).elim⟩;rw[e,List.getElem?_map,List.getElem?_range hi,Option.map_some,lM so vs i hi]
def Tm (so:Bool) (v:dL):Prop:=∀(c c':List IV) (m:IM),gh v c→gh (qb so v) c'→cw (.f 60) [.agg c,.agg c'] m=some (.bool true,m)
theorem Wv (so:Bool) (k:Int) (t:List UInt8) (ks ks':List (List UInt8)) (vs vs':List dL) (K V K' V':IV) (hK:mU K ks) (hV:mL V vs) (hK':mU K' ks') (hV':mL V' vs')
  (hn:vs.length≤1000000) (hnk:k=5→ks.length=vs.length) (hnk':ks'.length≤1000000) (hnd:ks'.Nodup) (hl':vs'.length=vs.length)
  (hat:∀i (h:i<vs.length),∃j:Nat,(k≠5→j=i)∧vs'[j]?=some (qb so vs[i])∧(k=5→ks'[j]?=some (ks.getD i []))) (ih:∀v,v∈vs→Tm so v) (m:IM) :
  ∀(j i:Nat),vs.length=i+j→Fv V (vs.length:Int) (i:Int) k t K V k t K' V' m=some (.exit 0,[],[.cells [.int .i64 k,.str t,K,V] [.any,.any,.any,.any],.cells [.int .i64 k,.str t,K',V'] [.any,.any,.any,.any]],m):=by
 intro j
 induction j with
 |zero =>
  intro i hi;have c:¬(i:Int)<(vs.length:Int):=by omega
  rw[BS];simp only[Ih,go_sem,c,decide_false,Bool.false_eq_true,if_false]
 |succ j IH =>
  intro i hi;have hiv:i<vs.length:=by omega
  have c:(i:Int)<(vs.length:Int):=by omega
  have hw:IntKind.i64.wrap ((i:Int)+1)=((i+1:Nat):Int):=by rw[w64 (by omega) (by omega)];rfl
  have h:=IH (i+1) (by omega);obtain⟨p,hp1,hp2,hp3⟩:=hat i hiv;have hp:p<vs'.length:=(List.getElem?_eq_some_iff.1 hp2).1;have hpe:vs'[p]=qb so vs[i]:=(List.getElem?_eq_some_iff.1 hp2).2;have hnlV:∀X:Option (St⊕LR),dk V X=X:=fun X=>iB hV.refs X;have hi0:=ih vs[i] (List.getElem_mem hiv);have hK0:=hK;have hV0:=hV
  cases hV with
  |nil=>simp at hiv
  | @sl _ row nn hr hnn =>
   cases hV' with
   |nil=>simp at hp
   | @sl _ row' nn' hr' hnn' =>
    obtain⟨cc,hc,hcut⟩:=hr.get i hiv;obtain⟨cc',hc',hcut'⟩:=hr'.get p hp;rw[hpe] at hc';have hcall:=hi0 cc cc' m hc hc';obtain⟨k1,t1,K1,V1,rfl,hK1,hV1,_,_⟩:=hc.cells;obtain⟨k2,t2,K2,V2,rfl,hK2,hV2,_,_⟩:=hc'.cells;have h60:=fun Q:IV→IM→Option LR=>ae hcall (by simp[go_sem,hK1,hV1,hK2,hV2]) Q;have hin:i<nn:=by omega
    have hpn:p<nn':=by omega
    have cp:¬((p:Nat):Int)<0:=by omega
    have hC1:zS (i:Int) (i:Int) (.sl row nn) (vs.length:Int) (i:Int) k t K (.sl row nn) k t K' (.sl row' nn') k1 t1 K1 V1 m=some (.normal,[.int .i64 (p:Int),.sl row nn,.int .i64 (vs.length:Int),.int .i64 (i:Int)],[.cells [.int .i64 k,.str t,K,.sl row nn] [.any,.any,.any,.any],.cells [.int .i64 k,.str t,K',.sl row' nn'] [.any,.any,.any,.any],.cells [.int .i64 k1,.str t1,K1,V1] [.any,.any,.any,.any]],m):=by
     by_cases g:k=5
     ·have hlk:=hnk g;have hik:i<ks.length:=by omega
      have hq:=hp3 g;have e1:ks.getD i []=ks[i]:=by simp[List.getD_eq_getElem?_getD,hik]
      rw[e1] at hq;have hpk:p<ks'.length:=(List.getElem?_eq_some_iff.1 hq).1;have hpke:ks'[p]=ks[i]:=(List.getElem?_eq_some_iff.1 hq).2;have h90:=NK hK' hnd hnk' p hpk m;rw[hpke] at h90;have q90:=fun Q:IV→IM→Option LR=>ae h90 (by rcases hK' with ⟨rfl,_⟩ | rfl<;>rfl) Q;have gb:(k==5)=true:=by simpa using g
      rcases hK0 with ⟨rfl,rfl⟩ | rfl
      ·simp at hik
      ·have r1:(ks.map IV.str)[i*1]?=some (.str ks[i]):=by simp[hik]
       simp only[zS,gb,go_sem,if_true,au (NI hik),dD r1,q90]
     ·have gb:(k==5)=false:=by simpa using g
      have:=hp1 g;subst this;simp only[zS,gb,go_sem,Bool.false_eq_true,if_false]
    have hC2:DN (p:Int) (.sl row nn) (vs.length:Int) (i:Int) k t K (.sl row nn) k t K' (.sl row' nn') k1 t1 K1 V1 m=some (.normal,[.sl row nn,.int .i64 (vs.length:Int),.int .i64 (i:Int),.bool false],[.cells [.int .i64 k,.str t,K,.sl row nn] [.any,.any,.any,.any],.cells [.int .i64 k,.str t,K',.sl row' nn'] [.any,.any,.any,.any]],m):=by simp only[DN,cp,decide_false,go_sem,Bool.false_eq_true,if_false,au (ur hpn),gi hcut',h60,Bool.not_true]
    rw[←h];generalize i+1=i2 at *;rw[BS];simp only[Ih,go_sem,c,decide_true,if_true,au (ur hin),gi hcut,af hK1,af hV1,hC1,hC2,Bool.false_eq_true,if_false,nQ,hw];rfl
theorem FD (so:Bool):∀(d:Nat) (v:dL) (lv:Int),H0 d lv v→sk v→Tm so v
 |0,v,lv,h,_=>by cases h
 |d+1,.mk k t ks vs,lv,h,ho=>by
  have hR:=Bk so (d+1) _ lv h
  cases h with
  |mk hlv hown hall =>
   cases ho with
   |mk p1 p2 p3 p4 p5 =>
    intro c c' m hc hc';obtain⟨o1,o2,o3,o4,o5,o6,o7,o8⟩:=jZ hown;unfold qb at hc' hR;have hat:∀i (h:i<vs.length),∃j:Nat,(k≠5→j=i)∧((ib so k ks vs.length).map fun i=>(lq so vs).getD i default)[j]?=some (qb so vs[i])∧(k=5→(if k=5 then (ib so k ks vs.length).map (fun i=>ks.getD i []) else [])[j]?=some (ks.getD i [])):=by intro i hi;obtain⟨j,h1,h2,h3⟩:=Sm so (k:=k) (ks:=ks) hi (fun g=>(o6 g).1);exact⟨j,h1,h2,fun g=>by rw[if_pos g];exact h3 g⟩
    have hl':((ib so k ks vs.length).map fun i=>(lq so vs).getD i default).length=vs.length:=by rw[(Bl so k ks vs).length_eq,kP]
    have hnd:(if k=5 then (ib so k ks vs.length).map (fun i=>ks.getD i []) else []).Nodup∧(if k=5 then (ib so k ks vs.length).map (fun i=>ks.getD i []) else []).length≤1000000:=by
     by_cases g:k=5
     ·rw[if_pos g];have hp:=Bj so k ks vs.length (o6 g).1;exact⟨hp.nodup_iff.2 (o6 g).2,by rw[hp.length_eq];exact p2⟩
     ·rw[if_neg g];exact⟨List.nodup_nil,by simp⟩
    generalize (if k=5 then (ib so k ks vs.length).map (fun i=>ks.getD i []) else [])=ks' at *;generalize ((ib so k ks vs.length).map fun i=>(lq so vs).getD i default)=vs' at *
    cases hc with
    | @mk _ _ _ _ K V hK hV =>
     cases hc' with
     | @mk _ _ _ _ K' V' hK' hV' =>
      have hL:=Wv so k t ks ks' vs vs' K V K' V' hK hV hK' hV' p5 (fun g=>(o6 g).1) hnd.2 hnd.1 hl' hat (fun v hv=>FD so d v (lv+1) (hall v hv) (Bx.mem p4 hv)) m vs.length 0 (by omega);have hL:Fv V (vs.length:Int) 0 k t K V k t K' V' m=_:=hL;have hlV:=hV.len;have hlV':=hV'.len;rw[hl'] at hlV';have gn:(k != k)=false:=by simp
      have gl:((vs.length:Int) != (vs.length:Int))=false:=by simp
      have hC0:DM k t K V k t K' V' m=some (.normal,[.bool false],[.cells [.int .i64 k,.str t,K,V] [.any,.any,.any,.any],.cells [.int .i64 k,.str t,K',V'] [.any,.any,.any,.any]],m):=by simp only[DM,gn,go_sem,Bool.false_eq_true,if_false,au hlV,au hlV',gl]
      have hnl:∀X:Option (IV×IM),dk V X=X:=fun X=>iB hV.refs X;apply IB;by_cases g:k=2
      ·subst g;obtain⟨ht,_⟩:=jU o3;unfold iz at ht;rw[if_neg (by decide),if_pos rfl,Bool.and_eq_true,decide_eq_true_eq] at ht;obtain⟨x,y,z,h89⟩:=Lt t ht.1 ht.2 o4;have q88:=fun Q:IV→IM→Option (IV×IM)=>ae (UB t t x x y y z z h89 h89 m) (by rfl) Q;have g2:((2:Int)==2)=true:=rfl;have i0:dW.ev (.aw 3) [.sl [.bool x,.str y,.int .i64 z,.bool x,.str y,.int .i64 z] 2,.int .i64 0]=some (.pI [.bool x,.str y,.int .i64 z,.bool x,.str y,.int .i64 z] 0):=rfl;have i1:dW.ev (.aw 3) [.sl [.bool x,.str y,.int .i64 z,.bool x,.str y,.int .i64 z] 2,.int .i64 1]=some (.pI [.bool x,.str y,.int .i64 z,.bool x,.str y,.int .i64 z] 3):=rfl;have c0:∀Q:IV→Option (IV×IM),eV true [.bool x,.str y,.int .i64 z,.bool x,.str y,.int .i64 z] 0 3 Q=Q (.agg [.bool x,.str y,.int .i64 z]):=fun Q=>rfl
       have c1:∀Q:IV→Option (IV×IM),eV true [.bool x,.str y,.int .i64 z,.bool x,.str y,.int .i64 z] 3 3 Q=Q (.agg [.bool x,.str y,.int .i64 z]):=fun Q=>rfl;have he:dW.ev (.lu false [(0,.bool),(1,.str),(2,.int)]) [.agg [.bool x,.str y,.int .i64 z],.agg [.bool x,.str y,.int .i64 z]]=some (.bool true):=by simp[dW.ev,iQ,lx]
       simp only[Wi,af hK.refs,af hV.refs,af hK'.refs,af hV'.refs,hC0,go_sem,Bool.false_eq_true,if_false,g2,if_true,q88,au i0,au i1,c0,c1,au he]
      ·have g2:(k==2)=false:=by simpa using g
       have gt:(t==t)=true:=by simp
       simp only[Wi,af hK.refs,af hV.refs,af hK'.refs,af hV'.refs,hC0,go_sem,Bool.false_eq_true,if_false,g2,au hlV,hnl,hL,if_true,gt]
theorem L7 (so:Bool):∀(d:Nat) (v:dL) (lv:Int),H0 d lv v→sk v→sk (qb so v)
 |0,v,lv,h,_=>by cases h
 |d+1,.mk k t ks vs,lv,h,ho=>by
  cases h with
  |mk hlv hown hall =>
   cases ho with
   |mk p1 p2 p3 p4 p5 =>
    obtain⟨_,_,_,_,_,o6,o7,_⟩:=jZ hown;have hv:=Bl so k ks vs;unfold qb;refine .mk p1 ?_ (fun s hs=>?_) (EK _ fun v hv'=>?_) (by rw[hv.length_eq,kP];exact p5)
    ·by_cases g:k=5
     ·rw[if_pos g,(Bj so k ks vs.length (o6 g).1).length_eq];exact p2
     ·rw[if_neg g];simp
    ·by_cases g:k=5
     ·rw[if_pos g] at hs;exact p3 s ((Bj so k ks vs.length (o6 g).1).mem_iff.1 hs)
     ·rw[if_neg g] at hs;cases hs
    ·have hm:=hv.mem_iff.1 hv';obtain⟨i,hi,rfl⟩:=List.getElem_of_mem hm;have hi':i<vs.length:=by rwa [kP] at hi
     have e:=lM so vs i hi';rw[List.getD_eq_getElem?_getD,List.getElem?_eq_getElem hi] at e;simp only[Option.getD_some] at e;rw[e];exact L7 so d _ (lv+1) (hall _ (List.getElem_mem hi')) (Bx.mem p4 (List.getElem_mem hi'))
theorem F1 (so:Bool) (v:dL) (h:ia v=0) (ho:sk v) (c c':List IV) (hc:gh v c) (hc':gh (qb so v) c') (m:IM) :
  ∃(r:Bool) (e:Int),(e=0→r=true)∧cw (.f 29) [.agg c,.agg c'] m=some (.db [.bool r,.int .i64 e],m):=by
 have hr:=rB 41 v 1 2000 (by omega) h (by omega);have h2:=zq so v h;have ho2:=L7 so 41 v 1 hr ho;have h25:=ru v c m hc ho;have h25':=ru (qb so v) c' m hc' ho2;rw[h] at h25;rw[h2] at h25';have h58:=Q6 0 0 m;rw[if_pos rfl] at h58;obtain⟨b1,f1⟩:=J4 41 v 1 hr ho;obtain⟨b2,f2⟩:=J4 41 (qb so v) 1 (Bk so 41 v 1 hr) ho2;have f1:=f1 c hc m;have f2:=f2 c' hc' m;have h60:=FD so 41 v 1 hr ho c c' m hc hc';obtain⟨k,t,K,V,rfl,hK,hV,_,_⟩:=hc.cells;obtain⟨k',t',K',V',rfl,hK',hV',_,_⟩:=hc'.cells;have q25:=fun (Q:IV→IM→Option (IV×IM))=>ae h25 (by simp[go_sem,hK,hV]) Q;have q25':=fun (Q:IV→IM→Option (IV×IM))=>ae h25' (by simp[go_sem,hK',hV']) Q;have q58:=fun (Q:IV→IM→Option (IV×IM))=>ae h58 (by rfl) Q;have qf1:=fun (Q:IV→IM→Option LR)=>ae f1 (by simp[go_sem,hK,hV]) Q;have qf2:=fun (Q:IV→IM→Option LR)=>ae f2 (by simp[go_sem,hK',hV']) Q
 have q60:=fun (Q:IV→IM→Option (IV×IM))=>ae h60 (by simp[go_sem,hK,hV,hK',hV']) Q;have hC:∃b:Bool,zP k t K V k' t' K' V' m=some (.normal,[.bool b],[.cells [.int .i64 k,.str t,K,V] [.any,.any,.any,.any],.cells [.int .i64 k',.str t',K',V'] [.any,.any,.any,.any]],m):=by
  cases b1 with
  |true=>exact⟨true,by simp only[zP,qf1,go_sem,if_true]⟩
  |false=>exact⟨b2,by simp only[zP,qf1,go_sem,Bool.false_eq_true,if_false,qf2]⟩
 obtain⟨b,hC⟩:=hC;have z:((0:Int) != 0)=false:=rfl
 cases b with
 |true =>
  refine⟨false,4,fun e=>by omega,?_⟩;apply BH;simp only[Wg,af hK,af hV,af hK',af hV',q25,go_sem,q25',q58,z,Bool.false_eq_true,if_false,hC,if_true]
  first | rfl | exact av rfl
 |false =>
  refine⟨true,0,fun _=>rfl,?_⟩;apply BH;simp only[Wg,af hK,af hV,af hK',af hV',q25,go_sem,q25',q58,z,Bool.false_eq_true,if_false,hC,if_true,q60]
  first | rfl | exact av rfl
theorem Nm {K:IV}{ks:List (List UInt8)}(h:mU K ks) (hb:ks.length≤1000000) (m:IM):∃K',mU K' ks∧cw (.f 95) [K] m=some (K',m):=by
 have hml:aH=1099511627776:=rfl;rcases h with ⟨rfl,rfl⟩ | rfl
 ·refine⟨.aa,.inl ⟨rfl,rfl⟩,?_⟩;have e:dW.ev (.eq false .slice) [.aa,.aa]=some (.bool true):=rfl;apply BM;simp only[Wn,au e,go_sem,if_true]
 ·have hp:(ks.map IV.str).all IV.plain=true:=by rw[List.all_eq_true];intro x hx;obtain⟨s,_,rfl⟩:=List.mem_map.1 hx;rfl
  have e:dW.ev (.eq false .slice) [.sl (ks.map .str) ks.length,.aa]=some (.bool false):=rfl;refine⟨.sl (ks.map .str) ks.length,.inr rfl,?_⟩;apply BM;have hN:Nat.beq (ks.map IV.str).length (ks.length*1)=true:=by simp
  have hb2:(0+ks.length)*16≤aH∧(dY [IV.str []] 0).length=0*1:=⟨by omega,rfl⟩
  simp only[Wn,au e,go_sem,Bool.false_eq_true,if_false,tu,dG,jb hp,hN,bO,if_true,Nat.zero_add];rw[Nat.zero_add] at hb2;rw[if_pos (decide_eq_true hb2)]
def Wc (v:dL):Prop:=∀(c:List IV) (m:IM),gh v c→sk v→∃c',gh v c'∧cw (.f 63) [.agg c] m=some (.agg c',m)
theorem RH (vs:List dL) (row:List IV) (hr:nX vs row) (hok:Bx vs) (hn:vs.length≤1000000) (ih:∀v,v∈vs→Wc v) (m:IM):∀(j i:Nat) (V:IV),vs.length=i+j→mL V (vs.take i) →
  ∃V',mL V' vs∧Fy (.func 63 [] []) V (.sl row vs.length) vs.length i m=some (.exit 0,[V'],[],m):=by
 have hml:aH=1099511627776:=rfl;intro j
 induction j with
 |zero =>
  intro i V hk hV;have c1:¬(i:Int)<(vs.length:Int):=by omega
  rw[List.take_of_length_le (by omega)] at hV;refine⟨V,hV,?_⟩;rw[vL];simp only[Fl,go_sem,c1,decide_false,Bool.false_eq_true,if_false]
 |succ j ihj =>
  intro i V hk hV;have hi:i<vs.length:=by omega
  have c1:(i:Int)<(vs.length:Int):=by omega
  have e2:IntKind.i64.wrap ((i:Int)+1)=((i+1:Nat):Int):=by rw[w64 (by omega) (by omega)];rfl
  obtain⟨c,hc,hcut⟩:=hr.get i hi;have hv:vs[i]∈vs:=List.getElem_mem hi;obtain⟨c',hc',hcall⟩:=ih _ hv c m hc (hok.mem hv);obtain⟨a,t1,K1,V1,rfl,hK,hV1,_,_⟩:=hc.cells;obtain⟨a',t2,K2,V2,rfl,hK2,hV2,hKp,hVp⟩:=hc'.cells;have hcc:=fun (K2:IV→IM→Option (St⊕LR))=>pj hcall (by simp[go_sem,hK,hV1]) K2;obtain⟨V',hV',hap⟩:=hV.app hc' (by rw[List.length_take];omega);have hV'':mL V' (vs.take (i+1)):=by rw[List.take_succ_eq_append_getElem hi];exact hV'
  have hnl':∀X:Option (St⊕LR),dk V' X=X:=fun X=>iB hV'.refs X;obtain⟨W,hW,hL⟩:=ihj (i+1) V' (by omega) hV'';refine⟨W,hW,?_⟩;rw[vL,←hL];generalize i+1=i2 at *;simp only[Fl,go_sem,c1,decide_true,if_true,au (ur hi),gi hcut,af hK,af hV1,hcc,iC hKp,iC hVp,hap,jX,hnl',nQ,e2];rfl
theorem FU (v:dL):Wc v:=by
 obtain⟨k,t,ks,vs⟩:=v;intro c m hc hok;have ih:∀v,v∈vs→Wc v:=fun v hv=>by
  have:SizeOf.sizeOf v<SizeOf.sizeOf vs:=List.sizeOf_lt_of_mem hv;exact FU v
 cases hc with
 | @mk _ _ _ _ K V hK hV =>
  cases hok with
  |mk h1 h2 h3 h4 h5 =>
   obtain⟨K',hK',h95⟩:=Nm hK h2 m;have h95c:=fun (K2:IV→IM→Option (IV×IM))=>ae h95 (by rcases hK with ⟨rfl,_⟩ | rfl<;>rfl) K2;have hone:∀(X:Option (IV×IM)),xw K' X=X:=fun X=>by rcases hK' with ⟨rfl,_⟩ | rfl<;>rfl
   have hlen:=hV.len;have hnl:=iB hV.refs (R:=IV×IM);have main:∃V',mL V' vs∧cw (.f 96) [V,.func 63 [] []] m=some (V',m):=by
    cases hV with
    |nil =>
     refine⟨.aa,.nil,?_⟩;apply BN;have hL:Fy (.func 63 [] []) .aa .aa 0 0 m=some (.exit 0,[.aa],[],m):=by rw[vL];simp[Fl,go_sem]
     simp only[Wo,au hlen,bV,jX,hnl,show (((([]:List dL).length:Nat)):Int)=0 from rfl,hL,go_sem,if_true]
    | @sl _ row n hr hn =>
     subst hn;obtain⟨V',hV',hL⟩:=RH vs row hr h4 h5 ih m vs.length 0 .aa (by omega) (by rw[List.take_zero];exact .nil);rw[show ((0:Nat):Int)=0 from rfl] at hL;refine⟨V',hV',?_⟩;apply BN;simp only[Wo,au hlen,bV,jX,hnl,hL,go_sem,if_true];refine av ?_
     cases hV'<;>rfl
   obtain⟨V',hV',h96⟩:=main;have h96c:=fun (K2:IV→IM→Option (IV×IM))=>ae h96 (by cases hV<;>rfl) K2;have hone':∀(X:Option (IV×IM)),xw V' X=X:=fun X=>by cases hV'<;>rfl
   refine⟨_,.mk hK' hV',?_⟩;apply ID;simp only[Yg,af hK.refs,af hV.refs,h95c,hone,af hK'.refs,h96c,hone',af hV'.refs];refine av ?_;have a1:=hK'.refs;have a2:=hV'.refs;rcases hK' with ⟨rfl,_⟩ | rfl<;>cases hV'<;>rfl
termination_by SizeOf.sizeOf v
decreasing_by simp_wf;omega
theorem Ul (v:dL) (h:ia v=0) (ho:sk v) (c:List IV) (hc:gh v c) (m:IM):∃c',gh v c'∧cw (.f 30) [.agg c,.str []] m=some (.db [.agg c',.int .i64 0],m):=by
 have h25:=ru v c m hc ho;rw[h] at h25;obtain⟨c',hc',h63⟩:=FU v c m hc ho;refine⟨c',hc',?_⟩;have h61:cw (.f 61) [.str []] m=some (.db [.aa,.bool true],m):=by have e:(([]:List UInt8)==[])=true:=rfl;apply IC;simp only[Yf,e,go_sem,if_true];exact av rfl
 obtain⟨k,t,K,V,rfl,hK,hV,_,_⟩:=hc.cells;obtain⟨k',t',K',V',rfl,hK',hV',_,_⟩:=hc'.cells;have q25:=fun (Q:IV→IM→Option (IV×IM))=>ae h25 (by simp[go_sem,hK,hV]) Q;have q61:=fun (Q:IV→IM→Option (IV×IM))=>ae h61 (by rfl) Q;have q63:=fun (Q:IV→IM→Option (IV×IM))=>ae h63 (by simp[go_sem,hK,hV]) Q;have z:((0:Int) != 0)=false:=rfl;have l0:dW.ev .ay [.aa]=some (.int .i64 0):=rfl;have n0:∀X:Option (IV×IM),dk .aa X=X:=fun X=>rfl;have hL:IU .aa 0 0 k t K V 0 [] .aa .aa m=some (.exit 0,[],[.cells [.int .i64 k,.str t,K,V] [.any,.any,.any,.any],.cells [.int .i64 0,.str [],.aa,.aa] [.any,.any,.own 1,.own 4]],m):=by
  have c:¬(0:Int)<0:=by omega
  rw[IW];simp only[OS,go_sem,c,decide_false,Bool.false_eq_true,if_false]
 apply Iu;simp only[X9,af hK,af hV,q25,go_sem,z,Bool.false_eq_true,if_false,q61,Bool.not_true,au l0,n0,hL,if_true,q63,af hK',af hV'];refine av ?_;simp[go_sem,IV.ak,hK',hV']
section
set_option maxRecDepth 100000
noncomputable def QX (n331:Int) (n292:Int) (s295:List UInt8) (v296:IV) (v298:IV) (n321:Int) (s324:List UInt8) (v325:IV) (v327:IV) (m314:IM) (m:IM):Option (IV×IM):=bn (Fo n331 n292 s295 v296 v298 n321 s324 v325 v327 m314) fun e332 l333 o334 m335=>fJ .normal e332 (c6 l333 fun v336 l337=>gu v336 fun b338=>bj l337 (cB o334 (settle m m335 (.bool b338)))) none
noncomputable def QW (n292:Int) (s295:List UInt8) (v296:IV) (v298:IV) (m283:IM) (m:IM):Option (IV×IM):=an cw (.f 19) [.agg [.int .i64 n292,.str s295,v296,v298]] [] m283 fun v300 m301=>iq v300 fun l302=>uV l302 fun n305 s308 v309 v311 l312=>bj l312 (an cw (.f 30) [.agg [.int .i64 n305,.str s308,v309,v311],.str []] [] m301 fun v313 m314=>jE v313 fun l315=>c6 l315 fun v316 l317=>iq v316 fun l318=>uV l318 fun n321 s324 v325 v327 l328=>bj l328 (uI .i64 l317 fun n331 l330=>bj l330 (bf v325 (bf v327 (QX n331 n292 s295 v296 v298 n321 s324 v325 v327 m314 m)))))
noncomputable def QV (b254:Bool) (n257:Int) (b276:Bool) (n279:Int) (n202:Int) (s205:List UInt8) (v206:IV) (v208:IV) (n215:Int) (s218:List UInt8) (v219:IV) (v221:IV) (n228:Int) (s231:List UInt8) (v232:IV) (v234:IV) (m272:IM) (m:IM):Option (IV×IM):=bn (vn b254 n257 b276 n279 n202 s205 v206 v208 n215 s218 v219 v221 n228 s231 v232 v234 m272) fun e280 l281 o282 m283=>fJ .normal e280 (c6 l281 fun v284 l285=>gu v284 fun b286=>bj l285 (jB o282 fun x287 o288=>jP x287 fun l289=>uV l289 fun n292 s295 v296 v298 l299=>bj l299 (cB o288 (aL b286 (settle m m283 (.bool false)) (QW n292 s295 v296 v298 m283 m))))) none
noncomputable def QU (n202:Int) (s205:List UInt8) (v206:IV) (v208:IV) (m193:IM) (n215:Int) (s218:List UInt8) (v219:IV) (v221:IV) (n228:Int) (s231:List UInt8) (v232:IV) (v234:IV) (m:IM):Option (IV×IM):=an cw (.f 19) [.agg [.int .i64 n202,.str s205,v206,v208]] [] m193 fun v236 m237=>iq v236 fun l238=>uV l238 fun n241 s244 v245 v247 l248=>bj l248 (an cw (.f 29) [.agg [.int .i64 n241,.str s244,v245,v247],.agg [.int .i64 n215,.str s218,v219,v221]] [] m237 fun v249 m250=>jE v249 fun l251=>c6 l251 fun v252 l253=>gu v252 fun b254=>uI .i64 l253 fun n257 l256=>bj l256 (an cw (.f 19) [.agg [.int .i64 n202,.str s205,v206,v208]] [] m250 fun v258 m259=>iq v258 fun l260=>uV l260 fun n263 s266 v267 v269 l270=>bj l270 (an cw (.f 29) [.agg [.int .i64 n263,.str s266,v267,v269],.agg [.int .i64 n228,.str s231,v232,v234]] [] m259 fun v271 m272=>jE v271 fun l273=>c6 l273 fun v274 l275=>gu v274 fun b276=>uI .i64 l275 fun n279 l278=>bj l278 (QV b254 n257 b276 n279 n202 s205 v206 v208 n215 s218 v219 v221 n228 s231 v232 v234 m272 m))))
noncomputable def QT (n145:Int) (n167:Int) (n189:Int) (n113:Int) (s116:List UInt8) (v117:IV) (v119:IV) (n132:Int) (s135:List UInt8) (v136:IV) (v138:IV) (n154:Int) (s157:List UInt8) (v158:IV) (v160:IV) (n176:Int) (s179:List UInt8) (v180:IV) (v182:IV) (m169:IM) (m:IM):Option (IV×IM):=bn (Fm n145 n167 n189 n113 s116 v117 v119 n132 s135 v136 v138 n154 s157 v158 v160 n176 s179 v180 v182 m169) fun e190 l191 o192 m193=>fJ .normal e190 (c6 l191 fun v194 l195=>gu v194 fun b196=>bj l195 (jB o192 fun x197 o198=>jP x197 fun l199=>uV l199 fun n202 s205 v206 v208 l209=>bj l209 (jB o198 fun x210 o211=>jP x210 fun l212=>uV l212 fun n215 s218 v219 v221 l222=>bj l222 (jB o211 fun x223 o224=>jP x223 fun l225=>uV l225 fun n228 s231 v232 v234 l235=>bj l235 (cB o224 (aL b196 (settle m m193 (.bool false)) (QU n202 s205 v206 v208 m193 n215 s218 v219 v221 n228 s231 v232 v234 m))))))) none
noncomputable def QS (s98:List UInt8) (m95:IM) (s101:List UInt8) (s104:List UInt8) (n113:Int) (s116:List UInt8) (v117:IV) (v119:IV) (m:IM):Option (IV×IM):=an cw (.f 13) [.str s98] [] m95 fun v124 m125=>jE v124 fun l126=>c6 l126 fun v127 l128=>iq v127 fun l129=>uV l129 fun n132 s135 v136 v138 l139=>bj l139 (uI .i64 l128 fun n142 l141=>uI .i64 l141 fun n145 l144=>bj l144 (bf v136 (bf v138 (an cw (.f 13) [.str s101] [] m125 fun v146 m147=>jE v146 fun l148=>c6 l148 fun v149 l150=>iq v149 fun l151=>uV l151 fun n154 s157 v158 v160 l161=>bj l161 (uI .i64 l150 fun n164 l163=>uI .i64 l163 fun n167 l166=>bj l166 (bf v158 (bf v160 (an cw (.f 13) [.str s104] [] m147 fun v168 m169=>jE v168 fun l170=>c6 l170 fun v171 l172=>iq v171 fun l173=>uV l173 fun n176 s179 v180 v182 l183=>bj l183 (uI .i64 l172 fun n186 l185=>uI .i64 l185 fun n189 l188=>bj l188 (bf v180 (bf v182 (QT n145 n167 n189 n113 s116 v117 v119 n132 s135 v136 v138 n154 s157 v158 v160 n176 s179 v180 v182 m169 m))))))))))))
noncomputable def Hb (s44:List UInt8) (n47:Int) (s66:List UInt8) (n69:Int) (s88:List UInt8) (n91:Int) (n18:Int) (s21:List UInt8) (v22:IV) (v24:IV) (m84:IM) (m:IM):Option (IV×IM):=bn (tA s44 n47 s66 n69 s88 n91 n18 s21 v22 v24 m84) fun e92 l93 o94 m95=>fJ .normal e92 (c6 l93 fun v96 l97=>gQ v96 fun s98=>c6 l97 fun v99 l100=>gQ v99 fun s101=>c6 l100 fun v102 l103=>gQ v102 fun s104=>c6 l103 fun v105 l106=>gu v105 fun b107=>bj l106 (jB o94 fun x108 o109=>jP x108 fun l110=>uV l110 fun n113 s116 v117 v119 l120=>bj l120 (cB o109 (aL b107 (an cw (.f 10) [] [] m95 fun v121 m122=>gu v121 fun b123=>settle m m122 (.bool b123)) (QS s98 m95 s101 s104 n113 s116 v117 v119 m))))) none
theorem IE (v:Int) (v1:List UInt8) (v2 v3:IV) (point:Int) (m:IM):F6 v v1 v2 v3 point m=bf v2 (bf v3 (an cw (.f 17) [.agg [.int .i64 v,.str v1,v2,v3]] [] m fun v0 m1=>gu v0 fun b2=>aL (!b2) (an cw (.f 10) [] [] m1 fun v3 m4=>gu v3 fun b5=>settle m m4 (.bool b5)) (bn (BD point v v1 v2 v3 m1) fun e6 l7 o8 m9=>fJ .ret e6 (c6 l7 fun v10 l11=>gu v10 fun b12=>bj l11 (cB o8 (settle m m9 (.bool b12)))) (fJ .normal e6 (bj l7 (jB o8 fun x13 o14=>jP x13 fun l15=>uV l15 fun n18 s21 v22 v24 l25=>bj l25 (cB o14 (an cw (.f 19) [.agg [.int .i64 n18,.str s21,v22,v24]] [] m9 fun v26 m27=>iq v26 fun l28=>uV l28 fun n31 s34 v35 v37 l38=>bj l38 (an cw (.f 18) [.agg [.int .i64 n31,.str s34,v35,v37]] [] m27 fun v39 m40=>jE v39 fun l41=>c6 l41 fun v42 l43=>gQ v42 fun s44=>uI .i64 l43 fun n47 l46=>bj l46 (an cw (.f 19) [.agg [.int .i64 n18,.str s21,v22,v24]] [] m40 fun v48 m49=>iq v48 fun l50=>uV l50 fun n53 s56 v57 v59 l60=>bj l60 (an cw (.f 21) [.agg [.int .i64 n53,.str s56,v57,v59]] [] m49 fun v61 m62=>jE v61 fun l63=>c6 l63 fun v64 l65=>gQ v64 fun s66=>uI .i64 l65 fun n69 l68=>bj l68 (an cw (.f 19) [.agg [.int .i64 n18,.str s21,v22,v24]] [] m62 fun v70 m71=>iq v70 fun l72=>uV l72 fun n75 s78 v79 v81 l82=>bj l82 (an cw (.f 23) [.agg [.int .i64 n75,.str s78,v79,v81]] [] m71 fun v83 m84=>jE v83 fun l85=>c6 l85 fun v86 l87=>gQ v86 fun s88=>uI .i64 l87 fun n91 l90=>bj l90 (Hb s44 n47 s66 n69 s88 n91 n18 s21 v22 v24 m84 m)))))))))) none)))):=rfl
end
theorem Sf (point k:Int) (t:List UInt8) (K V:IV) (m:IM):BD point k t K V m=some (.normal,[],[.cells [.int .i64 k,.str t,K,V] [.any,.any,.any,.any]],m):=by
 have h27:=Q3 point m
 cases h:bT point with
 |false =>rw[h] at h27;have q27:=fun (Q:IV→IM→Option LR)=>ae h27 (by simp[go_sem]) Q;have z:((3:Int)==0)=false:=rfl;simp only[BD,q27,Bool.false_eq_true,if_false,go_sem,z]
 |true =>
  have hp:∃p:Nat,point=(p:Int):=by have hb:=h;simp only[bT,Bool.and_eq_true,decide_eq_true_eq] at hb;exact⟨point.toNat,by omega⟩
  obtain⟨p,rfl⟩:=hp;rw[h,if_pos rfl,ov p h] at h27;obtain⟨h1,h2,h3,h4⟩:=Hf p h;have h28:=Q4 (fV p) m;rw[if_neg h1,h2,if_pos rfl,h3,h4] at h28;have q27:=fun (Q:IV→IM→Option LR)=>ae h27 (by simp[go_sem]) Q;have q28:=fun (Q:IV→IM→Option LR)=>ae h28 (by simp[go_sem]) Q;have z:((0:Int)==0)=true:=rfl;have z2:((0:Int) != 0)=false:=rfl;have z3:(((p:Nat):Int) != ((p:Nat):Int))=false:=by simp
  have z4:((((fV p).length:Nat):Int) != (((fV p).length:Nat):Int))=false:=by simp
  have hC:Ik (p:Int) (fV p) (p:Int) ((fV p).length:Int) 0 k t K V m=some (.normal,[.bool false],[.cells [.int .i64 k,.str t,K,V] [.any,.any,.any,.any]],m):=by simp only[Ik,z2,z3,z4,go_sem,Bool.false_eq_true,if_false]
  simp only[BD,q27,go_sem,z,if_true,q28,hC,Bool.false_eq_true,if_false]
theorem xF {so li:Bool}{v:dL}(h:(ie so li v).2=0):ia v=0∧(gP so li v 0).length≤100000∧ie so li v=(gP so li v 0,0):=by
 unfold ie at h ⊢;by_cases g:ia v≠0
 ·rw[if_pos g] at h;exact (g h).elim
 ·rw[if_neg g] at h ⊢;by_cases g2:100000<(gP so li v 0).length
  ·rw[if_pos g2] at h;simp at h
  ·rw[if_neg g2];exact⟨by omega,by omega,rfl⟩
set_option maxRecDepth 100000 in
theorem Vo {k k1 e1 e2 e3 point:Int}{t s1 t1 t2 t3:List UInt8}{K V K1 V1:IV}{m:IM}(hK:K.refs=some 0) (hV:V.refs=some 0)
  (c17:∀Q:IV→IM→Option (IV×IM),an cw (.f 17) [.agg [.int .i64 k,.str t,K,V]] [] m Q=Q (.bool true) m)
  (c19:∀Q:IV→IM→Option (IV×IM),an cw (.f 19) [.agg [.int .i64 k,.str t,K,V]] [] m Q=Q (.agg [.int .i64 k1,.str s1,K1,V1]) m)
  (c18:∀Q:IV→IM→Option (IV×IM),an cw (.f 18) [.agg [.int .i64 k1,.str s1,K1,V1]] [] m Q=Q (.db [.str t1,.int .i64 e1]) m)
  (c21:∀Q:IV→IM→Option (IV×IM),an cw (.f 21) [.agg [.int .i64 k1,.str s1,K1,V1]] [] m Q=Q (.db [.str t2,.int .i64 e2]) m)
  (c23:∀Q:IV→IM→Option (IV×IM),an cw (.f 23) [.agg [.int .i64 k1,.str s1,K1,V1]] [] m Q=Q (.db [.str t3,.int .i64 e3]) m) :
  F6 k t K V point m=Hb t1 e1 t2 e2 t3 e3 k t K V m m:=by
 have hpt:=Sf point k t K V m;rw[IE];simp only[af hK,af hV,c17,go_sem,Bool.not_true,Bool.false_eq_true,if_false,hpt,if_true,c19,c18,c21,c23,reduceCtorEq]
set_option maxRecDepth 100000 in
set_option maxHeartbeats 4000000 in
theorem WH (v:dL) (c:List IV) (hb:ql v) (hc:gh v c) (point:Int):cw (.f 6) [.agg c,.int .i64 point] ⟨[],0⟩=some (.bool true,⟨[],0⟩):=by
 have h17:=On v c ⟨[],0⟩ hb hc;have h10:=fun (Q:IV→IM→Option (IV×IM))=>ae Jk (by simp[go_sem]) Q;have h10':=fun (Q:IV→IM→Option LR)=>ae Jk (by simp[go_sem]) Q;by_cases hs:kX v 0≤60
 ·have hok:=Dh 51 v 0 hb (by omega) (by omega) hs;obtain⟨c1,hc1,h19⟩:=PY v c ⟨[],0⟩ hc hok;have h18:=Oh v c1 hc1 hok ⟨[],0⟩;have h21:=Me HS v c1 hc1 hok ⟨[],0⟩;have h23:=KF v c1 hc1 hok ⟨[],0⟩;rw[decide_eq_true hs] at h17;by_cases he:(ie false false v).2=0∧(ie true false v).2=0∧(ie false true v).2=0
  ·obtain⟨e1,e2,e3⟩:=he;obtain⟨hck,l1,p1⟩:=xF e1;obtain⟨_,l2,p2⟩:=xF e2;obtain⟨_,l3,p3⟩:=xF e3;have hr:=rB 41 v 1 2000 (by omega) hck (by omega);have cd:=L6 41 v 1 hr;obtain⟨n1,r1,a1,b1⟩:=oO false false v hck;obtain⟨n2,r2,a2,b2⟩:=oO true false v hck;obtain⟨n3,r3,a3,b3⟩:=oO false true v hck;obtain⟨w1,hw1,g1⟩:=Bc _ l1 n1 r1 a1 ⟨[],0⟩;obtain⟨w2,hw2,g2⟩:=Bc _ l2 n2 r2 a2 ⟨[],0⟩;obtain⟨w3,hw3,g3⟩:=Bc _ l3 n3 r3 a3 ⟨[],0⟩;rw[b1] at hw1 g1;rw[b2] at hw2 g2;rw[b3] at hw3 g3;simp only at hw1 hw2 hw3 g1 g2 g3;rw[p1] at h18;rw[p2] at h21;rw[p3] at h23;obtain⟨x1,y1,z1,q1⟩:=F1 true v hck hok c1 w2 hc1 hw2 ⟨[],0⟩;obtain⟨x2,y2,z2,q2⟩:=F1 false v hck hok c1 w3 hc1 hw3 ⟨[],0⟩;obtain⟨d,hd,q30⟩:=Ul v hck hok c1 hc1 ⟨[],0⟩;rw[cd] at hw1 hw3;obtain⟨u1,hu1,s1⟩:=JI v w1 ⟨[],0⟩ hw1 hok;obtain⟨u2,hu2,s2⟩:=JI v d ⟨[],0⟩ hd hok;have m1:=E0 v u1 c ⟨[],0⟩ hu1 hc hok;have m2:=E0 v u2 c ⟨[],0⟩ hu2 hc hok
   generalize gP false false v 0=t1 at *;generalize gP true false v 0=t2 at *;generalize gP false true v 0=t3 at *;obtain⟨k,t,K,V,rfl,hK,hV,_,_⟩:=hc.cells;obtain⟨k1,s1',K1,V1,rfl,hK1,hV1,_,_⟩:=hc1.cells;obtain⟨ka,sa,Ka,Va,rfl,hKa,hVa,_,_⟩:=hw1.cells;obtain⟨kb,sb,Kb,Vb,rfl,hKb,hVb,_,_⟩:=hw2.cells;obtain⟨kc,sc,Kc,Vc,rfl,hKc,hVc,_,_⟩:=hw3.cells;obtain⟨kd,sd,Kd,Vd,rfl,hKd,hVd,_,_⟩:=hd.cells;obtain⟨ke,se,Ke,Ve,rfl,hKe,hVe,_,_⟩:=hu1.cells;obtain⟨kf,sf,Kf,Vf,rfl,hKf,hVf,_,_⟩:=hu2.cells;have c17:=fun (Q:IV→IM→Option (IV×IM))=>ae h17 (by simp[go_sem,hK,hV]) Q;have c19:=fun (Q:IV→IM→Option (IV×IM))=>ae h19 (by simp[go_sem,hK,hV]) Q;have c18:=fun (Q:IV→IM→Option (IV×IM))=>ae h18 (by simp[go_sem,hK1,hV1]) Q;have c21:=fun (Q:IV→IM→Option (IV×IM))=>ae h21 (by simp[go_sem,hK1,hV1]) Q;have c23:=fun (Q:IV→IM→Option (IV×IM))=>ae h23 (by simp[go_sem,hK1,hV1]) Q
   have d1:=fun (Q:IV→IM→Option (IV×IM))=>ae g1 (by simp[go_sem]) Q;have d2:=fun (Q:IV→IM→Option (IV×IM))=>ae g2 (by simp[go_sem]) Q;have d3:=fun (Q:IV→IM→Option (IV×IM))=>ae g3 (by simp[go_sem]) Q;have j1:=fun (Q:IV→IM→Option (IV×IM))=>ae q1 (by simp[go_sem,hK1,hV1,hKb,hVb]) Q;have j2:=fun (Q:IV→IM→Option (IV×IM))=>ae q2 (by simp[go_sem,hK1,hV1,hKc,hVc]) Q;have j3:=fun (Q:IV→IM→Option (IV×IM))=>ae q30 (by simp[go_sem,hK1,hV1]) Q;have i1:=fun (Q:IV→IM→Option LR)=>ae s1 (by simp[go_sem,hKa,hVa]) Q;have i2:=fun (Q:IV→IM→Option LR)=>ae s2 (by simp[go_sem,hKd,hVd]) Q;have i3:=fun (Q:IV→IM→Option LR)=>ae m1 (by simp[go_sem,hKe,hVe,hK,hV]) Q;have i4:=fun (Q:IV→IM→Option LR)=>ae m2 (by simp[go_sem,hKf,hVf,hK,hV]) Q;have zn:((0:Int) != 0)=false:=rfl;have ze:((0:Int)==0)=true:=rfl;have hw:(IntKind.i64.wrap (IntKind.i64.wrap ((0:Int)+0)+0) != 0)=false:=by decide
   have hC2:tA t1 0 t2 0 t3 0 k t K V ⟨[],0⟩=some (.normal,[.str t1,.str t2,.str t3,.bool false],[.cells [.int .i64 k,.str t,K,V] [.any,.any,.any,.any]],⟨[],0⟩):=by simp only[tA,zn,go_sem,Bool.false_eq_true,if_false]
   have hC3:Fm 0 0 0 k t K V ka sa Ka Va kb sb Kb Vb kc sc Kc Vc ⟨[],0⟩=some (.normal,[.bool false],[.cells [.int .i64 k,.str t,K,V] [.any,.any,.any,.any],.cells [.int .i64 kb,.str sb,Kb,Vb] [.any,.any,.any,.any],.cells [.int .i64 kc,.str sc,Kc,Vc] [.any,.any,.any,.any]],⟨[],0⟩):=by simp only[Fm,hw,go_sem,Bool.false_eq_true,if_false,i1,i3,Bool.not_true]
   have hC4:vn x1 y1 x2 y2 k t K V kb sb Kb Vb kc sc Kc Vc ⟨[],0⟩=some (.normal,[.bool false],[.cells [.int .i64 k,.str t,K,V] [.any,.any,.any,.any]],⟨[],0⟩):=by
    by_cases u1:y1=0<;>by_cases u2:y2=0
    ·have v1:=z1 u1;have v2:=z2 u2;subst u1 u2 v1 v2;simp only[vn,ze,go_sem,if_true,Bool.not_true,Bool.false_eq_true,if_false]
    ·have v1:=z1 u1;have w2:(y2==0)=false:=by simpa using u2
     subst u1 v1;simp only[vn,ze,w2,go_sem,if_true,Bool.not_true,Bool.false_eq_true,if_false]
    ·have v2:=z2 u2;have w1:(y1==0)=false:=by simpa using u1
     subst u2 v2;simp only[vn,ze,w1,go_sem,if_true,Bool.not_true,Bool.false_eq_true,if_false]
    ·have w1:(y1==0)=false:=by simpa using u1
     have w2:(y2==0)=false:=by simpa using u2
     simp only[vn,w1,w2,go_sem,Bool.false_eq_true,if_false]
   have hC5:Fo 0 k t K V kd sd Kd Vd ⟨[],0⟩=some (.normal,[.bool true],[],⟨[],0⟩):=by simp only[Fo,ze,go_sem,if_true,i2,i4,h10']
   have e7:QX 0 k t K V kd sd Kd Vd ⟨[],0⟩ ⟨[],0⟩=some (.bool true,⟨[],0⟩):=by simp only[QX,hC5,go_sem,if_true]
   have e6:QW k t K V ⟨[],0⟩ ⟨[],0⟩=some (.bool true,⟨[],0⟩):=by simp only[QW,c19,go_sem,j3,af hKd,af hVd,e7]
   have e5:QV x1 y1 x2 y2 k t K V kb sb Kb Vb kc sc Kc Vc ⟨[],0⟩ ⟨[],0⟩=some (.bool true,⟨[],0⟩):=by simp only[QV,hC4,go_sem,if_true,Bool.false_eq_true,if_false,e6]
   have e4:QU k t K V ⟨[],0⟩ kb sb Kb Vb kc sc Kc Vc ⟨[],0⟩=some (.bool true,⟨[],0⟩):=by simp only[QU,c19,go_sem,j1,j2,e5]
   have e3:QT 0 0 0 k t K V ka sa Ka Va kb sb Kb Vb kc sc Kc Vc ⟨[],0⟩ ⟨[],0⟩=some (.bool true,⟨[],0⟩):=by simp only[QT,hC3,go_sem,if_true,Bool.false_eq_true,if_false,e4]
   have e2:QS t1 ⟨[],0⟩ t2 t3 k t K V ⟨[],0⟩=some (.bool true,⟨[],0⟩):=by simp only[QS,d1,d2,d3,go_sem,af hKa,af hVa,af hKb,af hVb,af hKc,af hVc,e3]
   have e1:Hb t1 0 t2 0 t3 0 k t K V ⟨[],0⟩ ⟨[],0⟩=some (.bool true,⟨[],0⟩):=by simp only[Hb,hC2,go_sem,if_true,Bool.false_eq_true,if_false,e2]
   exact zZ _ _ _ _ _ _ ((Vo hK hV c17 c19 c18 c21 c23).trans e1)
  ·generalize ie false false v=p1 at *;generalize ie true false v=p2 at *;generalize ie false true v=p3 at *;obtain⟨t1,e1⟩:=p1;obtain⟨t2,e2⟩:=p2;obtain⟨t3,e3⟩:=p3;simp only at he h18 h21 h23;obtain⟨k,t,K,V,rfl,hK,hV,_,_⟩:=hc.cells;obtain⟨k1,s1',K1,V1,rfl,hK1,hV1,_,_⟩:=hc1.cells;have c17:=fun (Q:IV→IM→Option (IV×IM))=>ae h17 (by simp[go_sem,hK,hV]) Q;have c19:=fun (Q:IV→IM→Option (IV×IM))=>ae h19 (by simp[go_sem,hK,hV]) Q;have c18:=fun (Q:IV→IM→Option (IV×IM))=>ae h18 (by simp[go_sem,hK1,hV1]) Q;have c21:=fun (Q:IV→IM→Option (IV×IM))=>ae h21 (by simp[go_sem,hK1,hV1]) Q;have c23:=fun (Q:IV→IM→Option (IV×IM))=>ae h23 (by simp[go_sem,hK1,hV1]) Q;have hC2:tA t1 e1 t2 e2 t3 e3 k t K V ⟨[],0⟩=some (.normal,[.str t1,.str t2,.str t3,.bool true],[.cells [.int .i64 k,.str t,K,V] [.any,.any,.any,.any]],⟨[],0⟩):=by
    by_cases u1:e1=0
    ·by_cases u2:e2=0
     ·have u3:(e3 != 0)=true:=by rw[bne_iff_ne];intro u3;exact he ⟨u1,u2,u3⟩
      have zn:((0:Int) != 0)=false:=rfl;subst u1 u2;simp only[tA,zn,u3,go_sem,Bool.false_eq_true,if_false]
     ·have w2:(e2 != 0)=true:=by simpa using u2
      have zn:((0:Int) != 0)=false:=rfl;subst u1;simp only[tA,zn,w2,go_sem,Bool.false_eq_true,if_false,if_true]
    ·have w1:(e1 != 0)=true:=by simpa using u1
     simp only[tA,w1,go_sem,if_true]
   have e1:Hb t1 e1 t2 e2 t3 e3 k t K V ⟨[],0⟩ ⟨[],0⟩=some (.bool true,⟨[],0⟩):=by simp only[Hb,hC2,go_sem,if_true,h10]
   exact zZ _ _ _ _ _ _ ((Vo hK hV c17 c19 c18 c21 c23).trans e1)
 ·rw[decide_eq_false hs] at h17;obtain⟨k,t,K,V,rfl,hK,hV,_,_⟩:=hc.cells;have q17:=fun (Q:IV→IM→Option (IV×IM))=>ae h17 (by simp[go_sem,hK,hV]) Q;apply zZ;rw[IE];simp only[af hK,af hV,q17,go_sem,Bool.not_false,if_true,h10]
end Go.Idl
