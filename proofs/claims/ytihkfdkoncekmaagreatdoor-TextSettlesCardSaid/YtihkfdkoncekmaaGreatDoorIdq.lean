/- This text proves what the interpreter returns at the functions that TextSettles reaches, last part, and that it returns true at TextSettles; it has no conditions. -/
import Derived.Test.YtihkfdkoncekmaaGreatDoorIdp
import Derived.Test.YtihkfdkoncekmaaGreatDoorIdn
import Derived.Test.YtihkfdkoncekmaaGreatDoorIdl
set_option linter.unusedSimpArgs false
set_option linter.unusedVariables false
namespace Go.Idl
def nu (n:Nat):UInt8:=if n<10 then UInt8.ofNat (48+n) else UInt8.ofNat (87+n)
def dG (c:UInt8):List UInt8 :=
 if c=34 then [92,34] else if c=92 then [92,92] else if c=8 then [92,98] else if c=12 then [92,102] else if c=10 then [92,110] else if c=13 then [92,114] else if c=9 then [92,116]
 else if c.toNat<32 then [92,117,48,48,nu (c.toNat/16),nu (c.toNat%16)] else [c]
def fO (s:List UInt8):List UInt8:=34::(s.flatMap dG++[34])
def dR (li:Bool) (lvl:Nat):List UInt8:=if li then 10::kR [32,32] lvl else []
def gD (li:Bool) (k:Int) (ks:List (List UInt8)) (i:Nat):List UInt8:=if k=5 then fO (ks.getD i [])++(58::if li then [32] else []) else []
def hH (li:Bool) (lvl:Nat) (k:Int) (ks ts:List (List UInt8)):Nat→List Nat→List UInt8
 |_,[]=>[]
 |n,i::r=>(if 0<n then [44] else [])++(dR li lvl++(gD li k ks i++(ts.getD i []++hH li lvl k ks ts (n+1) r)))
def t8 (ks:List (List UInt8)) (i:Nat):List Nat→List Nat
 |[]=>[i]
 |j::r=>if fG (ks.getD i []) (ks.getD j []) then i::j::r else j::t8 ks i r
def uP (ks:List (List UInt8)):Nat→List Nat
 |0=>[]
 |n+1=>t8 ks n (uP ks n)
def gL (so:Bool) (k:Int) (ks:List (List UInt8)) (n:Nat):List Nat:=if so&&decide (k=5) then uP ks n else List.range n
def opB (k:Int):UInt8:=if k=5 then 123 else 91
def clB (k:Int):UInt8:=if k=5 then 125 else 93
mutual
def prV (so li:Bool):Val→Nat→List UInt8
 |.mk k t ks vs,lvl=>if k=0 then [110,117,108,108] else if k=1∨k=2 then t else if k=3 then fO t
  else opB k::(hH li (lvl+1) k ks (prL so li vs (lvl+1)) 0 (gL so k ks vs.length)++((if vs=[] then [] else dR li lvl)++[clB k]))
def prL (so li:Bool):List Val→Nat→List (List UInt8)
 |[],_=>[]
 |v::vs,lvl=>prV so li v lvl::prL so li vs lvl
end
theorem tD (so li:Bool):∀(vs:List Val) (lvl:Nat),(prL so li vs lvl).length=vs.length
 |[],_=>rfl
 |v::vs,lvl=>by unfold prL;simp[tD so li vs lvl]
theorem mh (so li:Bool):∀(vs:List Val) (lvl i:Nat) (h:i<vs.length),(prL so li vs lvl).getD i []=prV so li vs[i] lvl
 |v::vs,lvl,0,h=>by unfold prL;rfl
 |v::vs,lvl,i+1,h=>by
  unfold prL
  simpa using mh so li vs lvl i (by simpa using h)
end Go.Idl
namespace Go.Idl
attribute [local go_sem] cn cu gI gS bn bU cC cU cV c6 dd c7 cf bG ct bC bF da cv bB dh bD aN aX aO aM aA dm dc cm cg dj cZ bY eC dk bZ dg cY c9 de cx cd ck bA b8 c8 bw aY bE bu cr aL aB
def wrP (so li:Bool) (out:List UInt8) (c:Cap):BObj:=.cells [.bool so,.bool li,bsl out] [.any,.any,c]
theorem De {R:Type}(l:List UInt8) (X:Option R):isSl (bsl l) X=X:=by cases l<;>rfl
theorem oi (l:List UInt8):al [bsl l]=some 0:=by
 have:=ve l
 simp[al,this]
theorem Bn {R:Type}{m:IM}{id off:Nat}{cs:List IV}{cp:List Cap}{out x:List UInt8}(hm:m.get id=.cells cs cp) (hc:out=[]∨cp.getD off .any=.own 1) (hl:out.length+x.length≤ao) (K:IV→IM→Option R) :
  ∃m',(out=[]∧m'=m∨out≠[]∧m'=az m id (.cells cs (cp.set off .any)))∧iT m id off (bsl out) 1 1 (aa x) x.length K=K (bsl (out++x)) m':=by
 cases out with
 |nil =>
  refine⟨m,.inl ⟨rfl,rfl⟩,?_⟩
  cases x with
  |nil=>simp[bsl,iT,aR]
  |cons b r =>
   have h':r.length+1≤ao:=by simpa using hl
   simp[bsl,iT,bn,bU,h']
 |cons b r =>
  refine⟨_,.inr ⟨by simp,rfl⟩,?_⟩
  have hcap:GZ m id off=.own 1:=by
   rcases hc with h | h
   ·cases h
   ·simp only[GZ,hm];exact h
  have hb:=bW (b::r)
  have hx:bsl (b::r++x)=.sl (aa (b::r)++aa x) ((b::r).length+x.length):=by
   rw[←gw,←List.length_append];rfl
  rw[hx]
  show iT m id off (.sl (aa (b::r)) (b::r).length) 1 1 (aa x) x.length K=_
  generalize (b::r)=q at *
  simp only[iT,hcap,decide_true,bU,if_true,hb,Nat.mul_one]
  rw[if_pos (by simpa using hl)]
  simp[St.drop,hm,az,an,IM.put]
section
variable {R:Type}{m:IM}{id:Nat}{so li:Bool}{out:List UInt8}{c:Cap}
theorem Fy (h:m.get id=wrP so li out c) (K:Bool→Option R):(eS m id fun l0 _=>dD false l0 0 1 fun v=>asB v K)=K so:=by
 rw[eW h];simp[dD,cU]
theorem yp (h:m.get id=wrP so li out c) (K:Bool→Option R):(eS m id fun l0 _=>dD false l0 1 1 fun v=>asB v K)=K li:=by
 rw[eW h];simp[dD,cU]
theorem fp (h:m.get id=wrP so li out c) (K:IV→Option R):(eS m id fun l0 _=>dD false l0 2 1 K)=K (bsl out):=by
 rw[eW h];simp[dD]
theorem wk (h:m.get id=wrP so li out c):id<m.size:=mS h
theorem gM {so' li':Bool}{out':List UInt8}{c':Cap}(h:m.get id=wrP so li out c):(az m id (wrP so' li' out' c')).get id=wrP so' li' out' c':=jt (wk h) _
theorem mO (h:m.get id=wrP so li out c):az m id (wrP so li out c)=m:=jq h (wk h)
theorem i0 (hm:m.get id=wrP so li out c) (hc:out=[]∨c=.own 1) {x:List UInt8}{xs:List IV}{n:Nat}(hx:xs=aa x) (hn:n=x.length) (hl:out.length+x.length≤ao) (K:IM→Option R) :
  (iT m id 2 (bsl out) 1 1 xs n fun v3 m4=>isSl v3 (stP m4 (.pB id 2) [v3] (.own 1) K))=K (az m id (wrP so li (out++x) (.own 1))):=by
 subst hx hn
 obtain⟨m',hm',e⟩:=Bn (x:=x) (off:=2) hm (by rcases hc with h | h;exact .inl h;exact .inr (by rw[h];rfl)) hl (fun v3 m4=>isSl v3 (stP m4 (.pB id 2) [v3] (.own 1) K))
 rw[e,De]
 rcases hm' with ⟨_,rfl⟩ | ⟨_,rfl⟩
 ·rw[i5 hm (oi _) (Nat.zero_le _) (by simp)];rfl
 ·rw[i5 (jt (wk hm) _) (oi _) (Nat.zero_le _) (by simp),aj];rfl
end
def quT:List (UInt8×UInt8):=[(34,34),(92,92),(47,47),(98,8),(102,12),(110,10),(114,13),(116,9)]
def quF (c:UInt8):List (UInt8×UInt8)→Option UInt8
 |[]=>none
 |(a,b)::r=>if b=c∧b≠47 then some a else quF c r
theorem CD (c:UInt8):dG c=match quF c quT with
  |some a=>[92,a]
  |none=>if c.toNat<32 then [92,117,48,48,nu (c.toNat/16),nu (c.toNat%16)] else [c]:=by
 simp only[dG,quF,quT]
 by_cases h1:c=34
 ·subst h1;rfl
 by_cases h2:c=92
 ·subst h2;rfl
 by_cases h3:c=8
 ·subst h3;rfl
 by_cases h4:c=12
 ·subst h4;rfl
 by_cases h5:c=10
 ·subst h5;rfl
 by_cases h6:c=13
 ·subst h6;rfl
 by_cases h7:c=9
 ·subst h7;rfl
 have k1:¬(34:UInt8)=c:=fun q=>h1 q.symm
 have k2:¬(92:UInt8)=c:=fun q=>h2 q.symm
 have k3:¬(8:UInt8)=c:=fun q=>h3 q.symm
 have k4:¬(12:UInt8)=c:=fun q=>h4 q.symm
 have k5:¬(10:UInt8)=c:=fun q=>h5 q.symm
 have k6:¬(13:UInt8)=c:=fun q=>h6 q.symm
 have k7:¬(9:UInt8)=c:=fun q=>h7 q.symm
 simp only[h1,h2,h3,h4,h5,h6,h7,k1,k2,k3,k4,k5,k6,k7,if_false,false_and,ne_eq,not_true,and_false]
theorem C4 (i:Nat) (h:i<8):quT.drop i=quT.getD i (0,0)::quT.drop (i+1):=by
 rcases i with _ | _ | _ | _ | _ | _ | _ | _ | i<;>first | rfl | omega
theorem Hz:∀i:Nat,i<8→POp.ev (.idxArr 8 true 2) [.agg [.int .u8 34,.int .u8 34,.int .u8 92,.int .u8 92,.int .u8 47,.int .u8 47,.int .u8 98,.int .u8 8,.int .u8 102,.int .u8 12,.int .u8 110,.int .u8 10,.int .u8 114,.int .u8 13,.int .u8 116,.int .u8 9],.int .i64 (i:Int)]=some (.agg [.int .u8 ((quT.getD i (0,0)).1.toNat:Int),.int .u8 ((quT.getD i (0,0)).2.toNat:Int)]):=by
 intro i hi
 rcases i with _ | _ | _ | _ | _ | _ | _ | _ | i<;>first | rfl | omega
theorem HM:∀i,i<8→(quT.getD i (0,0)).2=47→(quT.getD i (0,0)).1=47:=by
 intro i hi
 rcases i with _ | _ | _ | _ | _ | _ | _ | _ | i<;>first | decide | omega
theorem KD (w:Nat) (s:List UInt8) (c x y:UInt8) (n n1 i:Int) (m:IM) (h47:y=47→x=47) :
  mN w s (c.toNat:Int) n n1 34 34 92 92 47 47 98 8 102 12 110 10 114 13 116 9 i (x.toNat:Int) (y.toNat:Int) m=some (.normal,[.pB w 0,.str s,.int .u8 (c.toNat:Int),.int .i64 n,.int .i64 n1,.agg [.int .u8 34,.int .u8 34,.int .u8 92,.int .u8 92,.int .u8 47,.int .u8 47,.int .u8 98,.int .u8 8,.int .u8 102,.int .u8 12,.int .u8 110,.int .u8 10,.int .u8 114,.int .u8 13,.int .u8 116,.int .u8 9],.int .i64 i,.bool (decide (y=c∧y≠47))],[.cells [.int .u8 (x.toNat:Int),.int .u8 (y.toNat:Int)] [.any,.any]],m):=by
 have hq:=Fi (c:=y) (d:=c)
 by_cases g1:y=c
 ·subst g1
  by_cases g2:y=47
  ·rw[h47 g2,g2]
   have e:POp.ev (.eqAgg true [(0,.int),(1,.int)]) [.agg [.int .u8 ((47:UInt8).toNat:Int),.int .u8 ((47:UInt8).toNat:Int)],.agg [.int .u8 47,.int .u8 47]]=some (.bool false):=by rfl
   simp only[mN,go_sem,aE e,BEq.rfl,if_true,ne_eq,not_true,and_false,decide_false]
  ·have e:POp.ev (.eqAgg true [(0,.int),(1,.int)]) [.agg [.int .u8 (x.toNat:Int),.int .u8 (y.toNat:Int)],.agg [.int .u8 47,.int .u8 47]]=some (.bool true):=by
    have:¬((y.toNat:Int)=47):=by
     intro q
     exact g2 (UInt8.toNat_inj.1 (by show y.toNat=47;omega))
    have e1:eqS .int (.int .u8 (y.toNat:Int)) (.int .u8 47)=some false:=by simp[eqS,this]
    cases hx:eqS .int (.int .u8 (x.toNat:Int)) (.int .u8 47) with
    |none=>simp[eqS] at hx
    |some b=>cases b<;>simp[POp.ev,fS,e1,hx]
   simp only[mN,go_sem,aE e,BEq.rfl,if_true,ne_eq,g2,not_false_eq_true,and_self,decide_true]
 ·have g':(y==c)=false:=by simpa using g1
  rw[g'] at hq
  simp only[mN,go_sem,hq,Bool.false_eq_true,if_false,g1,false_and,decide_false]
theorem JC (w:Nat) (s:List UInt8) (c:UInt8) (n n1:Int) (so li:Bool) (out:List UInt8) (cp:Cap) (m:IM) (hm:m.get w=wrP so li out cp) (hc:out=[]∨cp=.own 1) (hl:out.length+2≤ao):∀(j i:Nat),8=i+j →
  qE w s (c.toNat:Int) n n1 34 34 92 92 47 47 98 8 102 12 110 10 114 13 116 9 i m=match quF c (quT.drop i) with
   |some a=>some (.exit 1,[.pB w 0,.str s,.int .i64 n,.int .i64 n1],[],az m w (wrP so li (out++[92,a]) (.own 1)))
   |none=>some (.exit 2,[.pB w 0,.str s,.int .u8 (c.toNat:Int),.int .i64 n,.int .i64 n1],[],m):=by
 intro j
 induction j with
 |zero =>
  intro i hk
  have:i=8:=by omega
  subst this
  rw[sP]
  simp[nO,go_sem,quT,quF]
 |succ j ih =>
  intro i hk
  have hi:i<8:=by omega
  have c1:(i:Int)<8:=by omega
  have hat:=Hz i hi
  have h47:=HM i hi
  rw[C4 i hi]
  have hw2:IntKind.i64.wrap ((i:Int)+1)=((i+1:Nat):Int):=by rw[w64 (by omega) (by omega)];omega
  have h:=ih (i+1) (by omega)
  unfold quF
  rw[sP]
  generalize quT.getD i (0,0)=p at *
  obtain⟨x,y⟩:=p
  simp only at *
  have hq:=Fi (c:=y) (d:=c)
  generalize i+1=i3 at *
  have happ:=i0 hm hc (x:=[92,x]) (xs:=[.int .u8 92,.int .u8 (x.toNat:Int)]) (n:=2) rfl rfl hl (R:=St⊕LR)
  have hC:=KD w s c x y n n1 i m h47
  by_cases g:y=c∧y≠47
  ·rw[if_pos g]
   rw[decide_eq_true g] at hC
   simp only[nO,go_sem]
   simp[go_sem,c1,aE hat,hC,fp hm,happ]
  ·rw[if_neg g]
   rw[decide_eq_false g] at hC
   have step:nxt tv (nO w s (c.toNat:Int) n n1 34 34 92 92 47 47 98 8 102 12 110 10 114 13 116 9 i m)=qE w s (c.toNat:Int) n n1 34 34 92 92 47 47 98 8 102 12 110 10 114 13 116 9 i3 m:=by
    simp only[nO,go_sem]
    simp[go_sem,c1,aE hat,hC,hw2]
    rfl
   rw[step]
   exact h
end Go.Idl
namespace Go.Idl
attribute [local go_sem] cn cu gI gS bn bU cC cU cV c6 dd c7 cf bG ct bC bF da cv bB dh bD aN aX aO aM aA dm dc cm cg dj cZ bY eC dk bZ dg cY c9 de cx cd ck bA b8 c8 bw aY bE bu cr aL aB
theorem Fk:∀n:Nat,n<16→POp.ev .idxStr [.str [48,49,50,51,52,53,54,55,56,57,97,98,99,100,101,102],.int .u8 (n:Int)]=some (.int .u8 ((nu n).toNat:Int)):=by
 intro i hi
 rcases i with _ | _ | _ | _ | _ | _ | _ | _ | _ | _ | _ | _ | _ | _ | _ | _ | i<;>first | rfl | omega
theorem JD (w:Nat) (s:List UInt8) (c:UInt8) (n n1:Int) (so li:Bool) (out:List UInt8) (cp:Cap) (m:IM) (hm:m.get w=wrP so li out cp) (hc:out=[]∨cp=.own 1) (hl:out.length+2≤ao) :
  qE w s (c.toNat:Int) n n1 34 34 92 92 47 47 98 8 102 12 110 10 114 13 116 9 0 m=match quF c quT with
   |some a=>some (.exit 1,[.pB w 0,.str s,.int .i64 n,.int .i64 n1],[],az m w (wrP so li (out++[92,a]) (.own 1)))
   |none=>some (.exit 2,[.pB w 0,.str s,.int .u8 (c.toNat:Int),.int .i64 n,.int .i64 n1],[],m):=JC w s c n n1 so li out cp m hm hc hl 8 0 rfl
theorem Kh (w:Nat) (s:List UInt8) (n:Int) (i:Nat) (hi:i<s.length) (so li:Bool) (out:List UInt8) (m:IM) (hm:m.get w=wrP so li out (.own 1)) (hl:out.length+6≤ao) :
  mF w s n i m=some (.normal,[.pB w 0,.str s,.int .i64 n,.int .i64 i],[],az m w (wrP so li (out++dG s[i]) (.own 1))):=by
 have hx:=xg (List.getElem?_eq_getElem hi)
 generalize s[i]=c at *
 have hL:=JD w s c n i so li out _ m hm (.inr rfl) (by omega)
 rw[CD]
 cases hq:quF c quT with
 |some a =>
  rw[hq] at hL
  simp[mF,go_sem,aE hx,hL]
 |none =>
  rw[hq] at hL
  simp only at hL
  have hc256:c.toNat<256:=UInt8.toNat_lt c
  by_cases g:c.toNat<32
  ·have g':(c.toNat:Int)<32:=by omega
   have hm1:(az m w (wrP so li (out++[92,117,48,48]) (.own 1))).get w=wrP so li (out++[92,117,48,48]) (.own 1):=gM hm
   have e1:IntKind.u8.wrap (Int.tdiv (c.toNat:Int) 16)=((c.toNat/16:Nat):Int):=by
    have:Int.tdiv (c.toNat:Int) 16=((c.toNat/16:Nat):Int):=rfl
    rw[this]
    unfold IntKind.wrap
    simp[IntKind.bits,IntKind.signed]
    omega
   have e2:Int.tmod (c.toNat:Int) 16=((c.toNat%16:Nat):Int):=rfl
   have h1:=Fk (c.toNat/16) (by omega)
   have h2:=Fk (c.toNat%16) (by omega)
   have a1:=i0 hm (.inr rfl) (x:=[92,117,48,48]) (xs:=aa [92,117,48,48]) (n:=4) rfl rfl (by simp;omega) (R:=LR)
   have a2:=i0 hm1 (.inr rfl) (x:=[nu (c.toNat/16),nu (c.toNat%16)]) (xs:=[.int .u8 ((nu (c.toNat/16)).toNat:Int),.int .u8 ((nu (c.toNat%16)).toNat:Int)]) (n:=2) rfl rfl (by simp;omega) (R:=LR)
   rw[←e1] at h1
   rw[←e2] at h2
   simp only[mF,go_sem,aE hx,hL,if_pos g]
   have hb:Nat.beq (List.length (aa [92,117,48,48])) (List.length ([92,117,48,48]:List UInt8)*1)=true:=rfl
   simp only[go_sem,decide_eq_true g',if_true,fp hm,gm (cW [92,117,48,48]),hb,a1,fp hm1,aE h1,aE h2,a2,aj,Nat.beq_refl]
   simp[bW]
  ·have g':¬(c.toNat:Int)<32:=by omega
   have a1:=i0 hm (.inr rfl) (x:=[c]) (xs:=[.int .u8 (c.toNat:Int)]) (n:=1) rfl rfl (by simp;omega) (R:=LR)
   simp[mF,go_sem,aE hx,hL,g,g',fp hm,a1]
theorem u5 (c:UInt8):(dG c).length≤6:=by
 unfold dG
 repeat' split
 all_goals simp
theorem kt:∀s:List UInt8,(s.flatMap dG).length≤6*s.length
 |[]=>Nat.le_refl _
 |c::r=>by
  have h1:=u5 c
  have h2:=kt r
  rw[List.flatMap_cons,List.length_append,List.length_cons]
  omega
theorem JM (w:Nat) (s:List UInt8) (hs:s.length≤1099511627776) (so li:Bool):∀(k i:Nat) (out:List UInt8) (m:IM),s.length=i+k→m.get w=wrP so li out (.own 1)→out.length+6*k≤ao →
  rr w s (s.length:Int) i m=some (.exit 0,[.pB w 0],[],az m w (wrP so li (out++(s.drop i).flatMap dG) (.own 1))):=by
 intro k
 induction k with
 |zero =>
  intro i out m hk hm hl
  have hi:s.length=i:=by omega
  have c1:¬(i:Int)<(s.length:Int):=by omega
  rw[sI,List.drop_eq_nil_iff.2 (by omega)]
  simp[p8,go_sem,c1,mO hm]
 |succ k ih =>
  intro i out m hk hm hl
  have hi:i<s.length:=by omega
  have c1:(i:Int)<(s.length:Int):=by omega
  have hw:IntKind.i64.wrap ((i:Int)+1)=((i+1:Nat):Int):=by rw[w64 (by omega) (by omega)];rfl
  have hC:=Kh w s (s.length:Int) i hi so li out m hm (by omega)
  have hq:=u5 s[i]
  have h:=ih (i+1) (out++dG s[i]) _ (by omega) (gM hm) (by rw[List.length_append];omega)
  rw[List.drop_eq_getElem_cons hi,List.flatMap_cons,←List.append_assoc]
  rw[aj] at h
  have step:nxt ur (p8 w s (s.length:Int) i m)=rr w s (s.length:Int) (i+1:Nat) (az m w (wrP so li (out++dG s[i]) (.own 1))):=by
   generalize i+1=j at *
   simp only[p8,go_sem,hC]
   simp[go_sem,c1,hw]
   rfl
  rw[sI,step,h]
theorem u6 (w:Nat) (s:List UInt8) (hs:s.length≤150000000000) (so li:Bool) (out:List UInt8) (c:Cap) (m:IM) (hm:m.get w=wrP so li out c) (hc:out=[]∨c=.own 1) (hl:out.length≤150000000000) :
  cw (.f 152) [.pB w 0,.str s] m=some (.tup [],az m w (wrP so li (out++fO s) (.own 1))):=by
 have hml:ao=1099511627776:=rfl
 have hq:=kt s
 have a1:=i0 hm hc (x:=[34]) (xs:=[.int .u8 34]) (n:=1) rfl rfl (by simp only[List.length_append,List.length_cons,List.length_nil];omega) (R:=IV×IM)
 have hm1:(az m w (wrP so li (out++[34]) (.own 1))).get w=wrP so li (out++[34]) (.own 1):=gM hm
 have hL:=JM w s (by omega) so li s.length 0 (out++[34]) _ (by omega) hm1 (by simp;omega)
 rw[List.drop_zero,aj] at hL
 have hm2:(az m w (wrP so li (out++[34]++s.flatMap dG) (.own 1))).get w=wrP so li (out++[34]++s.flatMap dG) (.own 1):=gM hm
 have a2:=i0 hm2 (.inr rfl) (x:=[34]) (xs:=[.int .u8 34]) (n:=1) rfl rfl (by simp only[List.length_append,List.length_cons,List.length_nil];omega) (R:=IV×IM)
 simp only[aj] at a2
 apply Am
 have hL':rr w s (s.length:Int) 0 (az m w (wrP so li (out++[34]) (.own 1)))=_:=hL
 simp only[Ij,fp hm,a1,hL']
 simp only[go_sem,if_true,fp hm2,a2]
 simp[fO]
end Go.Idl
namespace Go.Idl
attribute [local go_sem] cn cu gI gS bn bU cC cU cV c6 dd c7 cf bG ct bC bF da cv bB dh bD aN aX aO aM aA dm dc cm cg dj cZ bY eC dk bZ dg cY c9 de cx cd ck bA b8 c8 bw aY bE bu cr aL aB aP ay cP cO bo aZ bp bP bq bR bt bQ List.flatMap_cons List.flatMap_nil
theorem Aa {R:Type}{c:Callee}{vs:List IV}{v:IV}{m:IM}{id:Nat}(h:∀m,cw c vs m=some (v,m)) (hid:id<m.size) (hr:(al (vs.flatMap IV.cells)).isSome=true) (K:IV→IM→Option R):aw cw c vs [id] m K=K v m:=by
 obtain⟨n,hn⟩:=Option.isSome_iff_exists.1 hr
 have e:(⟨(m.bs.set id .none).set id (m.get id),m.esc⟩:IM)=m:=by
  have:=jq (m:=m) (id:=id) rfl hid
  rw[List.set_set]
  exact this
 simp only[aw,hn,cH,y9,h,aT]
 rw[e]
theorem wV (n:Nat):(kR [32,32] n).length=2*n:=by
 induction n with
 |zero=>rfl
 |succ n ih=>simp[kR,ih];omega
theorem Hr (n:Nat) (hn:n≤1000000) (m:IM):cw (.f 171) [.str [32,32],.int .i64 (n:Int)] m=some (.str (kR [32,32] n),m):=by
 unfold cw
 rw[qH (p:=mV) rfl]
 have h1:Nat.ble n 9223372036854775807=true:=by rw[Nat.ble_eq];omega
 have h2:Nat.ble (2*n) 140737488355328=true:=by rw[Nat.ble_eq];omega
 simp[mV,h1,h2]
theorem zr (w:Nat) (lvl:Nat) (hv:lvl≤1000000) (so li:Bool) (out:List UInt8) (m:IM) (hm:m.get w=wrP so li out (.own 1)) (hl:out.length≤500000000000) :
  cw (.f 164) [.pB w 0,.int .i64 (lvl:Int)] m=some (.tup [],az m w (wrP so li (out++dR li lvl) (.own 1))):=by
 have hml:ao=1099511627776:=rfl
 have hr:=wV lvl
 apply AX
 cases li with
 |false=>simp[DB,go_sem,yp hm,dR,mO hm,aL]
 |true =>
  have h1:=fun K:IV→IM→Option (IV×IM)=>Aa (Hr lvl hv) (wk hm) (by simp[go_sem]) K
  have e:POp.ev (.bin .add) [.str [10],.str (kR [32,32] lvl)]=some (.str (10::kR [32,32] lvl)):=by
   simp[POp.ev,dp,fc,bX]
   omega
  have a1:=i0 hm (.inr rfl) (x:=10::kR [32,32] lvl) (n:=(10::kR [32,32] lvl).length) rfl rfl (by simp;omega) (R:=IV×IM)
  have hb:Nat.beq (aa (10::kR [32,32] lvl)).length ((10::kR [32,32] lvl).length*1)=true:=by simp[bW]
  have hc:List.contains [w] w=true:=by simp
  simp only[DB,go_sem,yp hm,if_true,Nat.beq_refl,fp hm,h1,hc,aE e,gm (cW _),hb,a1]
  simp[dR]
end Go.Idl
namespace Go.Idl
attribute [local go_sem] cn cu gI gS bn bU cC cU cV c6 dd c7 cf bG ct bC bF da cv bB dh bD aN aX aO aM aA dm dc cm cg dj cZ bY eC dk bZ dg cY c9 de cx cd ck bA b8 c8 bw aY bE bu cr aL aB
def eI (l:List Nat):List IV:=l.map fun (i:Nat)=>.int .i64 (i:Int)
theorem wz (l:List Nat):(eI l).all IV.plain=true:=by
 rw[List.all_eq_true]
 intro x hx
 obtain⟨i,_,rfl⟩:=List.mem_map.1 hx
 rfl
theorem D6 (v:IV) (n:Nat):cD [v] n=List.replicate n v:=by
 induction n with
 |zero=>rfl
 |succ n ih=>simp[cD,ih,List.replicate_succ]
theorem xQ (l:List IV):aF l []=List.replicate l.length .any:=by
 induction l with
 |nil=>rfl
 |cons v r ih=>simp[aF,ih,List.replicate_succ]
def upI (i n:Nat):List IV:=eI (List.range i)++List.replicate (n-i) (.int .i64 0)
theorem EO {i n:Nat}(h:i≤n):(upI i n).length=n:=by simp[upI,eI];omega
theorem Bk {i n:Nat}(h:i<n):over (upI i n) i [.int .i64 (i:Int)]=upI (i+1) n:=by
 have hl:(eI (List.range i)).length=i:=by simp[eI]
 unfold over upI
 have e:n-i=(n-(i+1))+1:=by omega
 rw[List.take_append_of_le_length (by omega),List.take_of_length_le (by omega),e,List.replicate_succ,List.drop_append,List.drop_eq_nil_iff.2 (by simp[hl])]
 have e2:i+[IV.int .i64 (i:Int)].length-(eI (List.range i)).length=1:=by rw[hl];simp
 rw[e2]
 simp[eI,List.range_succ]
theorem A9 {i n:Nat}(h:i<n):aC (List.replicate n Cap.any) i 1 .any=List.replicate n .any:=by
 unfold aC
 rw[List.take_replicate,List.drop_replicate,List.replicate_append_replicate,List.replicate_append_replicate]
 congr 1;omega
theorem Bi (n:Nat):upI n n=eI (List.range n):=by simp[upI]
theorem B4 (n:Nat):upI 0 n=List.replicate n (.int .i64 0):=by simp[upI,eI]
theorem JV {id n i:Nat}(h:i<n):POp.ev (.indexS 1) [.sB id 0 n 1,.int .i64 (i:Int)]=some (.pB id i):=by
 have c1:(0:Int)≤(i:Int):=by omega
 have c2:(i:Int)<(n:Int):=by omega
 simp[POp.ev,c1,h]
theorem D3 {R:Type}(id o n z:Nat) (X:Option R):gq (.sB id o n z) X=X:=rfl
theorem LG (w v b n:Nat) (hn:n≤1000000) (m:IM):∀(k i:Nat),n=i+k→b<m.size →
  qg w v 0 (.sB b 0 n 1) (n:Int) (i:Int) (az m b (.cells (upI i n) (List.replicate n .any)))=some (.exit 0,[.pB w 0,.pB v 0,.sB b 0 n 1],[],az m b (.cells (eI (List.range n)) (List.replicate n .any))):=by
 intro k
 induction k with
 |zero =>
  intro i hk hb
  have hi:i=n:=by omega
  subst hi
  have c1:¬(i:Int)<(i:Int):=by omega
  rw[ss]
  simp[qO,go_sem,Bi]
 |succ k ih =>
  intro i hk hb
  have hi:i<n:=by omega
  have c1:(i:Int)<(n:Int):=by omega
  have hw:IntKind.i64.wrap ((i:Int)+1)=((i+1:Nat):Int):=by rw[w64 (by omega) (by omega)];rfl
  have h:=ih (i+1) (by omega) hb
  have hl:=EO (i:=i) (n:=n) (by omega)
  have hs:=fun K:IM→Option (St⊕LR)=>i5 (jt hb (.cells (upI i n) (List.replicate n .any))) (vs:=[.int .i64 (i:Int)]) (c:=.any) (off:=i) (r:=0) rfl (Nat.zero_le _) (by rw[hl];simp;omega) K
  simp only[aj,Bk hi,List.length_cons,List.length_nil,Nat.zero_add,A9 hi] at hs
  have step:nxt uF (qO w v 0 (.sB b 0 n 1) (n:Int) (i:Int) (az m b (.cells (upI i n) (List.replicate n .any))))=qg w v 0 (.sB b 0 n 1) (n:Int) (i+1:Nat) (az m b (.cells (upI (i+1) n) (List.replicate n .any))):=by
   generalize i+1=j at *
   simp only[qO,go_sem,decide_eq_true c1,if_true,aE (JV hi),hs,D3,hw]
   rfl
  rw[ss,step,h]
theorem AJ {m m':IM}{n:Nat}{l:List IV}{cp:List Cap}(hs:m'.bs.take m.size=m.bs) (he:m'.esc=m.esc) (hp:l.all IV.plain=true) (hn:l.length=n) {id:Nat}(hid:m.size≤id) (hg:m'.get id=.cells l cp):settle m m' (.sB id 0 n 1)=some (.sl l n,m):=by
 have h1:(IV.sB id 0 n 1).refsDeep=some (id+1):=rfl
 have h2:vL m.size m' (.sB id 0 n 1)=.sl l n:=by
  have hc:cut l 0 (n*1)=some l:=by simp[cut,hn,List.take_of_length_le (Nat.le_of_eq hn)]
  simp only[vL,frz,hg,hc,hp,if_true]
  rw[if_neg (by omega)]
 have h3:(IV.sl l n).refsDeep=some 0:=rfl
 unfold settle
 simp only[h1,an,hs,he,if_true,h2,h3,Nat.zero_le]
 rw[if_neg (by omega)]
theorem BU (w:Nat) (so li:Bool) (out:List UInt8) (c:Cap) (k:Int) (t:List UInt8) (K V:IV) (n:Nat) (hn:n≤1000000) (hV:POp.ev .lenSlice [V]=some (.int .i64 (n:Int))) (hK:K.refs=some 0) (hV2:V.refs=some 0) (m:IM) (hm:m.get w=wrP so li out c) (h:(so&&decide (k=5))=false) :
  cw (.f 163) [.pB w 0,.agg [.int .i64 k,.str t,K,V]] m=some (.sl (eI (List.range n)) n,m):=by
 have hml:ao=1099511627776:=rfl
 have hw:=wk hm
 have g1:(bJ m (.cells [.int .i64 k,.str t,K,V] [.any,.any,.any,.any])).get m.size=.cells [.int .i64 k,.str t,K,V] [.any,.any,.any,.any]:=gK _ _
 generalize hM:bJ m (.cells [.int .i64 k,.str t,K,V] [.any,.any,.any,.any])=M at *
 have hMs:M.size=m.size+1:=by rw[←hM,qt]
 have hL:=LG w m.size M.size n hn (bJ M (.cells (List.replicate n (.int .i64 0)) (List.replicate n .any))) n 0 (by omega) (by rw[qt];omega)
 rw[eJ,eJ,B4] at hL
 have hA:decide ((0:Int)≤(n:Int)∧(n:Int)≤(n:Int)∧(n:Int)*8≤(ao:Int)∧(n:Int)≤(ao:Int))=true:=by
  rw[decide_eq_true_eq,hml];omega
 have hq:(bJ M (.cells (eI (List.range n)) (List.replicate n .any))).get w=wrP so li out c:=by
  rw[jy (by omega),←hM,jy hw,hm]
 have hq2:(bJ M (.cells (eI (List.range n)) (List.replicate n .any))).get m.size=.cells [.int .i64 k,.str t,K,V] [.any,.any,.any,.any]:=by
  rw[jy (by omega),g1]
 have hC:pg w m.size 0 (.sB M.size 0 n 1) (bJ M (.cells (eI (List.range n)) (List.replicate n .any)))=some (.normal,[.pB m.size 0,.sB M.size 0 n 1,.bool true],[],bJ M (.cells (eI (List.range n)) (List.replicate n .any))):=by
  cases so with
  |false=>simp[pg,go_sem,Fy hq]
  |true =>
   have hk:¬k=5:=by simpa using h
   have hk':(k != 5)=true:=by simpa using hk
   simp only[pg,go_sem,Fy hq,eW hq2,Bool.not_true,Bool.false_eq_true,if_false]
   rw[dY (v:=.int .i64 k) rfl]
   simp only[go_sem,hk']
 have hS:settle m (bJ M (.cells (eI (List.range n)) (List.replicate n .any))) (.sB M.size 0 n 1)=some (.sl (eI (List.range n)) n,m):=by
  refine AJ (cp:=List.replicate n .any) ?_ ?_ (wz _) (by simp[eI]) (by omega) (gK _ _)
  ·rw[←hM];simp[bJ,IM.size]
  ·rw[←hM];rfl
 have hL':qg w m.size 0 (.sB M.size 0 n 1) (n:Int) 0 (bJ M (.cells (List.replicate n (.int .i64 0)) (List.replicate n .any)))=_:=hL
 apply zS
 simp only[HW,hM,ah hK,ah hV2,eW g1]
 rw[dY (v:=V) rfl]
 simp only[aE hV,go_sem,hA,if_true,D6,xQ,List.length_replicate,Int.toNat_natCast]
 simp only[hL',go_sem,if_true,hC,hS]
end Go.Idl
namespace Go.Idl
attribute [local go_sem] cn cu gI gS bn bU cC cU cV c6 dd c7 cf bG ct bC bF da cv bB dh bD aN aX aO aM aA dm dc cm cg dj cZ bY eC dk bZ dg cY c9 de cx cd ck bA b8 c8 bw aY bE bu cr aL aB aP ay cP cO bo aZ bp bP bq bR bt bQ List.flatMap_cons List.flatMap_nil
theorem ix1 {row:List IV}{n i:Nat}(h:i<n):POp.ev (.indexS 1) [.sl row n,.int .i64 (i:Int)]=some (.pI row (i*1)):=by
 have c1:(0:Int)≤(i:Int):=by omega
 have c2:(i:Int)<(n:Int):=by omega
 simp[POp.ev,c1,h]
theorem JE (w:Nat) (br:List UInt8) (lvl:Int) (p:Nat) (i:Int) (l:IV) (len:Int) (k:Int) (t:List UInt8) (K V:IV) (so li:Bool) (out:List UInt8) (m:IM) (hm:m.get w=wrP so li out (.own 1)) (hl:out.length≤150000000000) :
  pf w br lvl p i l len p k t K V m=some (.normal,[.pB w 0,.str br,.int .i64 lvl,.int .i64 i,l,.int .i64 len,.int .i64 (p:Int)],[.cells [.int .i64 k,.str t,K,V] [.any,.any,.any,.any]],az m w (wrP so li (out++if 0<p then [44] else []) (.own 1))):=by
 have hml:ao=1099511627776:=rfl
 by_cases g:0<p
 ·have g':(p:Int)>0:=by omega
  have a1:=i0 hm (.inr rfl) (x:=[44]) (xs:=[.int .u8 44]) (n:=1) rfl rfl (by simp only[List.length_cons,List.length_nil];omega) (R:=LR)
  simp only[pf,go_sem,decide_eq_true g',if_true,fp hm,a1,if_pos g]
 ·have g':¬(p:Int)>0:=by omega
  simp only[pf,go_sem,decide_eq_false g',Bool.false_eq_true,if_false,if_neg g,List.append_nil,mO hm]
theorem JP (w:Nat) (br:List UInt8) (lvl:Int) (p:Int) (i:Nat) (l:IV) (len:Int) (k:Int) (t:List UInt8) (K V:IV) (ks:List (List UInt8)) (hK:SlS K ks) (hi:k=5→i<ks.length) (so li:Bool) (out:List UInt8) (m:IM) (hm:m.get w=wrP so li out (.own 1)) (hl:out.length+(gD li k ks i).length≤120000000000) :
  me w br lvl i l len p k t K V m=some (.normal,[.pB w 0,.str br,.int .i64 lvl,.int .i64 (i:Int),l,.int .i64 len,.int .i64 p],[.cells [.int .i64 k,.str t,K,V] [.any,.any,.any,.any]],az m w (wrP so li (out++gD li k ks i) (.own 1))):=by
 have hml:ao=1099511627776:=rfl
 by_cases g:k=5
 ·subst g
  have hi:=hi rfl
  have hg:K=.sl (ks.map .str) ks.length:=by
   rcases hK with ⟨_,rfl⟩ | h
   ·simp at hi
   ·exact h
  have hx:ks.getD i []=ks[i]:=by simp[List.getD_eq_getElem?_getD,hi]
  have hrow:(ks.map IV.str)[i*1]?=some (.str ks[i]):=by simp[hi]
  have hk:gD li 5 ks i=fO ks[i]++(58::if li then [32] else []):=by simp only[gD,if_true,hx]
  rw[hk] at hl ⊢
  have hql:ks[i].length≤(fO ks[i]).length:=by
   have:∀s:List UInt8,s.length≤(s.flatMap dG).length:=by
    intro s
    induction s with
    |nil=>exact Nat.zero_le _
    |cons c r ih =>
     have hc:1≤(dG c).length:=by
      unfold dG
      repeat' split
      all_goals simp
     rw[List.flatMap_cons,List.length_append,List.length_cons];omega
   have:=this ks[i]
   simp only[fO,List.length_cons,List.length_append];omega
  simp only[List.length_append,List.length_cons] at hl
  have hq:=u6 w ks[i] (by omega) so li out (.own 1) m hm (.inr rfl) (by omega)
  have h1:=fun K2:IV→IM→Option LR=>af hq (by simp[go_sem]) K2
  have hm1:(az m w (wrP so li (out++fO ks[i]) (.own 1))).get w=wrP so li (out++fO ks[i]) (.own 1):=gM hm
  have a1:=i0 hm1 (.inr rfl) (x:=[58]) (xs:=[.int .u8 58]) (n:=1) rfl rfl (by simp only[List.length_cons,List.length_nil,List.length_append];omega) (R:=LR)
  simp only[aj] at a1
  have hm2:(az m w (wrP so li (out++fO ks[i]++[58]) (.own 1))).get w=wrP so li (out++fO ks[i]++[58]) (.own 1):=gM hm
  subst hg
  cases li with
  |false =>
   simp only[me,go_sem,BEq.rfl,if_true,aE (ix1 hi),dY hrow,h1,fp hm1,a1,yp hm2,Bool.false_eq_true,if_false]
   simp only[List.append_assoc,List.cons_append,List.nil_append]
  |true =>
   have a2:=i0 hm2 (.inr rfl) (x:=[32]) (xs:=[.int .u8 32]) (n:=1) rfl rfl (by simp only[List.length_cons,List.length_nil,List.length_append];omega) (R:=LR)
   simp only[aj] at a2
   simp only[me,go_sem,BEq.rfl,if_true,aE (ix1 hi),dY hrow,h1,fp hm1,a1,yp hm2,fp hm2,a2]
   simp only[List.append_assoc,List.cons_append,List.nil_append]
 ·have g':(k==5)=false:=by simpa using g
  simp only[me,go_sem,g',Bool.false_eq_true,if_false,gD,if_neg g,List.append_nil,mO hm]
theorem KQ (w:Nat) (br:List UInt8) (lvl:Nat) (hlv:lvl≤1000) (k:Int) (t:List UInt8) (K V:IV) (ks:List (List UInt8)) (vs:List Val) (hK:SlS K ks) (hV:SlV V vs) (so li:Bool) (ts:List (List UInt8)) (l:List Nat) (hl:∀i,i∈l→i<vs.length∧(k=5→i<ks.length)) (hn:l.length≤1000000)
  (hI:∀(i:Nat) (h:i<vs.length) (c:List IV),ValR vs[i] c→∀(out:List UInt8) (m:IM),m.get w=wrP so li out (.own 1)→out.length+(ts.getD i []).length≤100000000000→cw (.f 82) [.pB w 0,.agg c,.int .i64 ((lvl+1:Nat):Int)] m=some (.tup [],az m w (wrP so li (out++ts.getD i []) (.own 1)))) :
  ∀(j p:Nat) (out:List UInt8) (m:IM),l.length=p+j→m.get w=wrP so li out (.own 1)→out.length+(hH li (lvl+1) k ks ts p (l.drop p)).length≤100000000000 →
  qD w br lvl (.sl (eI l) l.length) l.length p k t K V m=some (.exit 0,[.pB w 0,.str br,.int .i64 (lvl:Int)],[.cells [.int .i64 k,.str t,K,V] [.any,.any,.any,.any]],az m w (wrP so li (out++hH li (lvl+1) k ks ts p (l.drop p)) (.own 1))):=by
 intro j
 induction j with
 |zero =>
  intro p out m hj hm hb
  have c1:¬(p:Int)<(l.length:Int):=by omega
  rw[sd,List.drop_eq_nil_iff.2 (by omega)]
  simp only[pr,go_sem,decide_eq_false c1,Bool.false_eq_true,if_false,hH,List.append_nil,mO hm]
 |succ j ih =>
  intro p out m hj hm hb
  have hp:p<l.length:=by omega
  have c1:(p:Int)<(l.length:Int):=by omega
  have hw:IntKind.i64.wrap ((p:Int)+1)=((p+1:Nat):Int):=by rw[w64 (by omega) (by omega)];rfl
  have hw2:IntKind.i64.wrap ((lvl:Int)+1)=((lvl+1:Nat):Int):=by rw[w64 (by omega) (by omega)];rfl
  rw[List.drop_eq_getElem_cons hp] at hb ⊢
  obtain⟨hi,hik⟩:=hl l[p] (List.getElem_mem hp)
  have hrow:(eI l)[p*1]?=some (.int .i64 (l[p]:Int)):=by simp[eI,hp]
  generalize l[p]=i at *
  unfold hH at hb ⊢
  simp only[List.length_append] at hb
  have hA:=JE w br lvl p i (.sl (eI l) l.length) l.length k t K V so li out m hm (by omega)
  have hm1:(az m w (wrP so li (out++if 0<p then [44] else []) (.own 1))).get w=wrP so li (out++if 0<p then [44] else []) (.own 1):=gM hm
  have hB:=zr w (lvl+1) (by omega) so li (out++if 0<p then [44] else []) _ hm1 (by rw[List.length_append];omega)
  rw[aj] at hB
  have h1:=fun K2:IV→IM→Option (St⊕LR)=>af hB (by simp[go_sem]) K2
  have hm2:(az m w (wrP so li ((out++if 0<p then [44] else [])++dR li (lvl+1)) (.own 1))).get w=wrP so li ((out++if 0<p then [44] else [])++dR li (lvl+1)) (.own 1):=gM hm
  have hC:=JP w br lvl p i (.sl (eI l) l.length) l.length k t K V ks hK hik so li _ _ hm2 (by simp only[List.length_append];omega)
  rw[aj] at hC
  have hm3:(az m w (wrP so li (((out++if 0<p then [44] else [])++dR li (lvl+1))++gD li k ks i) (.own 1))).get w=wrP so li (((out++if 0<p then [44] else [])++dR li (lvl+1))++gD li k ks i) (.own 1):=gM hm
  cases hV with
  |nil=>simp at hi
  | @sl _ row n hr hnn =>
   obtain⟨c,hc,hcut⟩:=hr.get i hi
   have hD:=hI i hi c hc _ _ hm3 (by simp only[List.length_append];omega)
   rw[aj] at hD
   have hin:i<n:=by omega
   obtain⟨k',t',K',V',rfl,hK',hV',_,_⟩:=hc.cells
   have h2:=fun K2:IV→IM→Option (St⊕LR)=>af hD (by simp[go_sem,hK',hV']) K2
   have h:=ih (p+1) _ _ (by omega) (gM (out':=(((out++if 0<p then [44] else [])++dR li (lvl+1))++gD li k ks i)++ts.getD i []) hm) (by simp only[List.length_append];omega)
   rw[aj] at h
   have step:nxt tw (pr w br lvl (.sl (eI l) l.length) l.length p k t K (.sl row n) m)=qD w br lvl (.sl (eI l) l.length) l.length (p+1:Nat) k t K (.sl row n) (az m w (wrP so li ((((out++if 0<p then [44] else [])++dR li (lvl+1))++gD li k ks i)++ts.getD i []) (.own 1))):=by
    simp only[pr,go_sem,decide_eq_true c1,if_true,aE (ix1 hp),dY hrow,hA,hw2,h1,hC,aE (A6 hin),iF hcut,h2,hw]
    rfl
   rw[sd,step,h]
   simp only[List.append_assoc]
end Go.Idl
namespace Go.Idl
attribute [local go_sem] cn cu gI gS bn bU cC cU cV c6 dd c7 cf bG ct bC bF da cv bB dh bD aN aX aO aM aA dm dc cm cg dj cZ bY eC dk bZ dg cY c9 de cx cd ck bA b8 c8 bw aY bE bu cr aL aB aP ay cP cO bo aZ bp bP bq bR bt bQ List.flatMap_cons List.flatMap_nil
inductive wfV:Nat→Val→Prop
 |mk {d:Nat}{k:Int}{t:List UInt8}{ks:List (List UInt8)}{vs:List Val}:0≤k→k≤5→(k=5→ks.length=vs.length∧ks.Nodup)→vs.length≤1000000→(∀v,v∈vs→wfV d v)→wfV (d+1) (.mk k t ks vs)
def Ev (so:Bool):Prop:=∀(w:Nat) (li:Bool) (out:List UInt8) (c:Cap) (k:Int) (t:List UInt8) (K V:IV) (ks:List (List UInt8)) (n:Nat) (m:IM),n≤1000000→POp.ev .lenSlice [V]=some (.int .i64 (n:Int))→SlS K ks→V.refs=some 0→(k=5→ks.length=n∧ks.Nodup)→m.get w=wrP so li out c →
  cw (.f 163) [.pB w 0,.agg [.int .i64 k,.str t,K,V]] m=some (.sl (eI (gL so k ks n)) n,m)
theorem xU:Ev false:=by
 intro w li out c k t K V ks n m hn hV hK hV2 hk hm
 exact BU w false li out c k t K V n hn hV hK.refs hV2 m hm rfl
theorem wc (ks:List (List UInt8)) (i:Nat):∀(l:List Nat) (x:Nat),x∈t8 ks i l↔x=i∨x∈l
 |[],x=>by simp[t8]
 |j::r,x=>by
  unfold t8
  split
  ·simp
  ·simp only[List.mem_cons,wc ks i r]
   constructor
   ·rintro (h | h | h)<;>simp[h]
   ·rintro (h | h | h)<;>simp[h]
theorem vg (ks:List (List UInt8)) (i:Nat):∀l:List Nat,(t8 ks i l).length=l.length+1
 |[]=>rfl
 |j::r=>by unfold t8;split<;>simp[vg ks i r]
theorem vy (ks:List (List UInt8)):∀(n x:Nat),x∈uP ks n↔x<n
 |0,x=>by simp[uP]
 |n+1,x=>by rw[uP,wc,vy ks n];omega
theorem vj (ks:List (List UInt8)):∀n:Nat,(uP ks n).length=n
 |0=>rfl
 |n+1=>by rw[uP,vg,vj ks n]
theorem qK (so:Bool) (k:Int) (ks:List (List UInt8)) (n x:Nat):x∈gL so k ks n↔x<n:=by
 unfold gL;split
 ·exact vy ks n x
 ·simp
theorem rB (so:Bool) (k:Int) (ks:List (List UInt8)) (n:Nat):(gL so k ks n).length=n:=by
 unfold gL;split
 ·exact vj ks n
 ·simp
theorem Dm (w:Nat) (lvl:Nat) (hlv:lvl≤1000) (k:Int) (hk4:k=4∨k=5) (t:List UInt8) (K V:IV) (ks:List (List UInt8)) (vs:List Val) (hK:SlS K ks) (hV:SlV V vs) (so li:Bool) (hO:Ev so) (hkv:k=5→ks.length=vs.length∧ks.Nodup) (hn:vs.length≤1000000)
  (hI:∀(i:Nat) (h:i<vs.length) (c:List IV),ValR vs[i] c→∀(out:List UInt8) (m:IM),m.get w=wrP so li out (.own 1)→out.length+(prV so li vs[i] (lvl+1)).length≤100000000000→cw (.f 82) [.pB w 0,.agg c,.int .i64 ((lvl+1:Nat):Int)] m=some (.tup [],az m w (wrP so li (out++prV so li vs[i] (lvl+1)) (.own 1))))
  (out:List UInt8) (c:Cap) (m:IM) (hm:m.get w=wrP so li out c) (hc:out=[]∨c=.own 1) (hb:out.length+(prV so li (.mk k t ks vs) lvl).length≤100000000000) :
  cw (.f 153) [.pB w 0,.agg [.int .i64 k,.str t,K,V],.str [opB k,clB k],.int .i64 (lvl:Int)] m=some (.tup [],az m w (wrP so li (out++prV so li (.mk k t ks vs) lvl) (.own 1))):=by
 have hml:ao=1099511627776:=rfl
 have hpr:prV so li (.mk k t ks vs) lvl=opB k::(hH li (lvl+1) k ks (prL so li vs (lvl+1)) 0 (gL so k ks vs.length)++((if vs=[] then [] else dR li lvl)++[clB k])):=by
  unfold prV
  rw[if_neg (by omega),if_neg (by omega),if_neg (by omega)]
 rw[hpr] at hb ⊢
 simp only[List.length_cons,List.length_append] at hb
 have a1:=i0 hm hc (x:=[opB k]) (xs:=[.int .u8 ((opB k).toNat:Int)]) (n:=1) rfl rfl (by simp only[List.length_cons,List.length_nil];omega) (R:=IV×IM)
 have hm1:(az m w (wrP so li (out++[opB k]) (.own 1))).get w=wrP so li (out++[opB k]) (.own 1):=gM hm
 have hord:=hO w li (out++[opB k]) (.own 1) k t K V ks vs.length _ hn hV.len hK hV.refs hkv hm1
 have h1:=fun K2:IV→IM→Option (IV×IM)=>af hord (by simp[go_sem,hK.refs,hV.refs]) K2
 have hlen:=rB so k ks vs.length
 have hL:=KQ w [opB k,clB k] lvl hlv k t K V ks vs hK hV so li (prL so li vs (lvl+1)) (gL so k ks vs.length)
  (fun i hi=>⟨(qK so k ks vs.length i).1 hi,fun h5=>by rw[(hkv h5).1];exact (qK so k ks vs.length i).1 hi⟩) (by omega)
  (fun i h c hc out m hm hb=>by rw[mh so li vs (lvl+1) i h] at hb ⊢;exact hI i h c hc out m hm hb)
  vs.length 0 (out++[opB k]) _ (by omega) hm1 (by rw[List.drop_zero,List.length_append,List.length_cons,List.length_nil];omega)
 rw[List.drop_zero,aj,hlen] at hL
 generalize hit:hH li (lvl+1) k ks (prL so li vs (lvl+1)) 0 (gL so k ks vs.length)=it at *
 have hm2:(az m w (wrP so li ((out++[opB k])++it) (.own 1))).get w=wrP so li ((out++[opB k])++it) (.own 1):=gM hm
 have hC:oQ w [opB k,clB k] lvl k t K V (az m w (wrP so li ((out++[opB k])++it) (.own 1)))=some (.normal,[.pB w 0,.str [opB k,clB k]],[],az m w (wrP so li (((out++[opB k])++it)++if vs=[] then [] else dR li lvl) (.own 1))):=by
  by_cases g:vs=[]
  ·have g':¬(vs.length:Int)>0:=by rw[g];simp
   simp only[oQ,aE hV.len,go_sem,decide_eq_false g',Bool.false_eq_true,if_false,if_pos g,List.append_nil]
  ·have g':(vs.length:Int)>0:=by
    have:vs.length≠0:=fun e=>g (List.length_eq_zero_iff.1 e)
    omega
   rw[if_neg g] at hb ⊢
   have hB:=zr w lvl (by omega) so li _ _ hm2 (by simp only[List.length_append,List.length_cons,List.length_nil];omega)
   rw[aj] at hB
   have h2:=fun K2:IV→IM→Option LR=>af hB (by simp[go_sem]) K2
   simp only[oQ,aE hV.len,go_sem,decide_eq_true g',if_true,h2]
 generalize hln:(if vs=[] then [] else dR li lvl)=ln at *
 have hm3:(az m w (wrP so li (((out++[opB k])++it)++ln) (.own 1))).get w=wrP so li (((out++[opB k])++it)++ln) (.own 1):=gM hm
 have a2:=i0 hm3 (.inr rfl) (x:=[clB k]) (xs:=[.int .u8 ((clB k).toNat:Int)]) (n:=1) rfl rfl (by simp only[List.length_cons,List.length_nil,List.length_append];omega) (R:=IV×IM)
 simp only[aj] at a2
 have e0:POp.ev .idxStr [.str [opB k,clB k],.int .i64 0]=some (.int .u8 ((opB k).toNat:Int)):=by simp[POp.ev]
 have e1:POp.ev .idxStr [.str [opB k,clB k],.int .i64 1]=some (.int .u8 ((clB k).toNat:Int)):=by simp[POp.ev]
 have e2:POp.ev .lenSlice [.sl (eI (gL so k ks vs.length)) vs.length]=some (.int .i64 (vs.length:Int)):=by simp[POp.ev]
 have e3:∀(X:Option (IV×IM)),gq (.sl (eI (gL so k ks vs.length)) vs.length) X=X:=fun X=>rfl
 have hL':qD w [opB k,clB k] lvl (.sl (eI (gL so k ks vs.length)) vs.length) vs.length 0 k t K V (az m w (wrP so li (out++[opB k]) (.own 1)))=_:=hL
 apply Ai
 simp only[Hk,ah hK.refs,ah hV.refs,go_sem,Nat.beq_refl,if_true,fp hm,aE e0,a1,h1,aE e2,e3,hL',hC,fp hm3,aE e1,a2]
 simp only[List.append_assoc,List.cons_append,List.nil_append]
theorem CQ (m:IM):cw (.f 106) [] m=some (.agg [.func 126 [] [],.func 127 [] [],.func 127 [] [],.func 128 [] [],.func 129 [] [],.func 130 [] []],m):=by
 apply AD
 exact aL (by rfl)
theorem HG (n:Nat) (h:n<6):POp.ev (.idxArr 6 true 1) [.agg [.func 126 [] [],.func 127 [] [],.func 127 [] [],.func 128 [] [],.func 129 [] [],.func 130 [] []],.int .i64 (n:Int)]=some (.agg [.func ([126,127,127,128,129,130].getD n 0) [] []]):=by
 rcases n with _ | _ | _ | _ | _ | _ | n<;>first | rfl | omega
theorem tH:∀s:List UInt8,s.length≤(s.flatMap dG).length
 |[]=>Nat.zero_le _
 |c::r=>by
  have hc:1≤(dG c).length:=by
   unfold dG
   repeat' split
   all_goals simp
  have:=tH r
  rw[List.flatMap_cons,List.length_append,List.length_cons];omega
theorem EA (so li:Bool) (hO:Ev so) (w:Nat):∀(d:Nat) (v:Val) (c:List IV),wfV d v→ValR v c→∀(lvl:Nat) (out:List UInt8) (cp:Cap) (m:IM),lvl+d≤1000→m.get w=wrP so li out cp→(out=[]∨cp=.own 1)→out.length+(prV so li v lvl).length≤100000000000 →
  cw (.f 82) [.pB w 0,.agg c,.int .i64 (lvl:Int)] m=some (.tup [],az m w (wrP so li (out++prV so li v lvl) (.own 1))):=by
 have hml:ao=1099511627776:=rfl
 intro d
 induction d with
 |zero=>intro v c hw;cases hw
 |succ d ih =>
  intro v c hw hc lvl out cp m hlv hm hcp hb
  cases hw with
  | @mk _ k t ks vs h0 h5 hkv hn hall =>
   cases hc with
   | @mk _ _ _ _ K V hK hV =>
    have hk:=hK.refs
    have hv:=hV.refs
    have h1:=fun K2:IV→IM→Option (IV×IM)=>af (CQ m) (by simp[go_sem]) K2
    obtain⟨n,rfl⟩:∃n:Nat,k=(n:Int):=⟨k.toNat,by omega⟩
    have hn6:n<6:=by omega
    have e1:=HG n hn6
    have hcall:∀g,cw (.f g) [.pB w 0,.agg [.int .i64 (n:Int),.str t,K,V],.int .i64 (lvl:Int)] m=some (.tup [],az m w (wrP so li (out++prV so li (.mk (n:Int) t ks vs) lvl) (.own 1)))→∀K2:IV→IM→Option (IV×IM),tZ cw (.func g [] []) [.pB w 0,.agg [.int .i64 (n:Int),.str t,K,V],.int .i64 (lvl:Int)] [] m K2=K2 (.tup []) (az m w (wrP so li (out++prV so li (.mk (n:Int) t ks vs) lvl) (.own 1))):=by
     intro g hg K2
     show aw cw (.f g) ([]++_++[]) [] m K2=_
     rw[List.nil_append,List.append_nil]
     exact af hg (by simp[go_sem,hk,hv]) K2
    have fin:cw (.f ([126,127,127,128,129,130].getD n 0)) [.pB w 0,.agg [.int .i64 (n:Int),.str t,K,V],.int .i64 (lvl:Int)] m=some (.tup [],az m w (wrP so li (out++prV so li (.mk (n:Int) t ks vs) lvl) (.own 1))):=by
     have plain:((n:Int)=1∨(n:Int)=2)→cw (.f 127) [.pB w 0,.agg [.int .i64 (n:Int),.str t,K,V],.int .i64 (lvl:Int)] m=some (.tup [],az m w (wrP so li (out++prV so li (.mk (n:Int) t ks vs) lvl) (.own 1))):=by
      intro h
      have e:prV so li (.mk (n:Int) t ks vs) lvl=t:=by unfold prV;rw[if_neg (by omega),if_pos h]
      rw[e] at hb ⊢
      have a1:=i0 hm hcp (x:=t) (xs:=aa t) (n:=t.length) rfl rfl (by omega) (R:=IV×IM)
      have hB:Nat.beq (aa t).length (t.length*1)=true:=by simp[bW]
      apply zD
      simp only[HB,ah hk,ah hv,go_sem,Nat.beq_refl,if_true,fp hm,gm (cW t),hB,a1]
     have lst:∀hk4:(n:Int)=4∨(n:Int)=5,cw (.f 153) [.pB w 0,.agg [.int .i64 (n:Int),.str t,K,V],.str [opB (n:Int),clB (n:Int)],.int .i64 (lvl:Int)] m=some (.tup [],az m w (wrP so li (out++prV so li (.mk (n:Int) t ks vs) lvl) (.own 1))):=by
      intro hk4
      exact Dm w lvl (by omega) (n:Int) hk4 t K V ks vs hK hV so li hO hkv hn (fun i h c hc out m hm hb=>ih _ _ (hall _ (List.getElem_mem h)) hc (lvl+1) out _ m (by omega) hm (.inr rfl) hb) out cp m hm hcp hb
     rcases n with _ | _ | _ | _ | _ | _ | n
     ·have e:prV so li (.mk ((0:Nat):Int) t ks vs) lvl=[110,117,108,108]:=by unfold prV;rw[if_pos (show ((0:Nat):Int)=0 from rfl)]
      rw[e] at hb ⊢
      have a1:=i0 hm hcp (x:=[110,117,108,108]) (xs:=aa [110,117,108,108]) (n:=4) rfl rfl (by simp only[List.length_cons,List.length_nil] at hb ⊢;omega) (R:=IV×IM)
      have hB:Nat.beq (List.length (aa [110,117,108,108])) (List.length ([110,117,108,108]:List UInt8)*1)=true:=rfl
      apply zH
      simp only[GA,ah hk,ah hv,go_sem,if_true,fp hm,gm (cW [110,117,108,108]),a1]
      exact if_pos hB
     ·exact plain (.inl rfl)
     ·exact plain (.inr rfl)
     ·have e:prV so li (.mk ((3:Nat):Int) t ks vs) lvl=fO t:=by unfold prV;rw[if_neg (by omega),if_neg (by omega),if_pos (show ((3:Nat):Int)=3 from rfl)]
      rw[e] at hb ⊢
      have hq:=tH t
      simp only[fO,List.length_cons,List.length_append] at hb
      have hQ:=u6 w t (by omega) so li out cp m hm hcp (by omega)
      have h2:=fun K2:IV→IM→Option (IV×IM)=>af hQ (by simp[go_sem]) K2
      apply AR
      simp only[Hg,ah hk,ah hv,go_sem,h2]
     ·have h2:=fun K2:IV→IM→Option (IV×IM)=>af (lst (.inl rfl)) (by simp[go_sem,hk,hv]) K2
      apply zG
      simp only[opB,clB] at h2
      rw[if_neg (by omega),if_neg (by omega)] at h2
      simp only[Hp,ah hk,ah hv,go_sem]
      rw[h2]
      simp only[go_sem]
     ·have h2:=fun K2:IV→IM→Option (IV×IM)=>af (lst (.inr rfl)) (by simp[go_sem,hk,hv]) K2
      apply zQ
      simp only[opB,clB] at h2
      rw[if_pos (by omega),if_pos (by omega)] at h2
      simp only[F6,ah hk,ah hv,go_sem]
      rw[h2]
      simp only[go_sem]
     ·omega
    apply Dg
    simp only[F82,ah hk,ah hv,h1,go_sem,aE e1,hcall _ fin]
end Go.Idl
namespace Go.Idl
theorem pX:∀(l seen:List (List UInt8)),oH seen l=false→l.Nodup∧∀x,x∈l→x∉seen
 |[],_,_=>⟨List.nodup_nil,fun _ h=>by cases h⟩
 |x::r,seen,h=>by
  unfold oH at h
  rw[Bool.or_eq_false_iff,decide_eq_false_iff_not] at h
  obtain⟨h1,h2⟩:=pX r (seen++[x]) h.2
  refine⟨List.nodup_cons.2 ⟨fun hx=>h2 x hx (by simp),h1⟩,fun y hy=>?_⟩
  rcases List.mem_cons.1 hy with rfl | hy
  ·exact h.1
  ·exact fun hs=>h2 y hy (List.mem_append_left _ hs)
theorem ko {k:Int}{t:List UInt8}{ks:List (List UInt8)}{n:Nat}(h:lE k t ks n=0) :
  0≤k∧k≤5∧eM k t ks n=true∧t.length≤1000∧(∀s,s∈ks→s.length≤1000)∧(k=5→ks.length=n∧ks.Nodup)∧(k≠5→ks=[])∧(k≠4→k≠5→n=0):=by
 unfold lE at h
 split at h
 ·omega
 ·rename_i g1
  split at h
  ·omega
  ·rename_i g2
   have g2:eM k t ks n=true:=by simpa using g2
   split at h
   ·omega
   ·rename_i g3
    split at h
    ·omega
    ·rename_i g4
     split at h
     ·omega
     ·rename_i g5
      have g5:oH [] ks=false:=by simpa using g5
      have g3:ll k t ks=false:=by simpa using g3
      have f:=g2
      simp only[eM,Bool.and_eq_true,Bool.or_eq_true,decide_eq_true_eq] at f
      simp only[ll,Bool.or_eq_false_iff,decide_eq_false_iff_not] at g3
      refine⟨by omega,by omega,g2,by omega,fun s hs=>?_,fun h5=>⟨?_,(pX ks [] g5).1⟩,fun h5=>?_,fun h4 h5=>?_⟩
      ·have:=g3.2
       rw[List.any_eq_false] at this
       have:=this s hs
       simp only[decide_eq_true_eq] at this
       omega
      ·by_cases q:ks.length=n
       ·exact q
       ·exact (g4 ⟨h5,q⟩).elim
      ·rcases f.1.1.2 with q | q
       ·exact (h5 q).elim
       ·exact q
      ·rcases f.1.2 with (q | q) | q
       ·exact (h5 q).elim
       ·exact (h4 q).elim
       ·exact q
theorem jL {k:Int}{t:List UInt8}{ks:List (List UInt8)}{vs:List Val}{lvl left:Int}(h:(eP (.mk k t ks vs) lvl left).1=0) :
  left≠0∧lvl≤40∧lE k t ks vs.length=0∧(fm vs (lvl+1) (left-1)).1=0∧(eP (.mk k t ks vs) lvl left).2=(fm vs (lvl+1) (left-1)).2:=by
 unfold eP at h ⊢
 by_cases h0:left=0
 ·rw[if_pos h0] at h;simp at h
 ·rw[if_neg h0] at h ⊢
  by_cases h1:lvl>40
  ·rw[if_pos h1] at h;simp at h
  ·rw[if_neg h1] at h ⊢
   by_cases h2:lE k t ks vs.length≠0
   ·rw[if_pos h2] at h;exact (h2 h).elim
   ·rw[if_neg h2] at h ⊢
    exact⟨h0,by omega,by omega,h,rfl⟩
theorem oT {v:Val}{vs:List Val}{lvl left:Int}(h:(fm (v::vs) lvl left).1=0):(eP v lvl left).1=0∧(fm vs lvl (eP v lvl left).2).1=0∧(fm (v::vs) lvl left).2=(fm vs lvl (eP v lvl left).2).2:=by
 have e:fm (v::vs) lvl left=(if (eP v lvl left).1≠0 then eP v lvl left else fm vs lvl (eP v lvl left).2):=by rw[fm]
 rw[e] at h ⊢
 by_cases h2:(eP v lvl left).1≠0
 ·rw[if_pos h2] at h;exact (h2 h).elim
 ·rw[if_neg h2] at h ⊢
  exact⟨by omega,h,rfl⟩
theorem ke (v:Val) (lvl left:Int) (hl:0≤left) (h:(eP v lvl left).1=0):(eP v lvl left).2+1≤left∧0≤(eP v lvl left).2:=by
 cases v with
 |mk k t ks vs =>
  obtain⟨h0,_,_,h3,h4⟩:=jL h
  rw[h4]
  have:=kq vs (lvl+1) (left-1) (by omega)
  omega
theorem va:∀(vs:List Val) (lvl left:Int),0≤left→(fm vs lvl left).1=0→(vs.length:Int)+(fm vs lvl left).2≤left
 |[],_,left,_,_=>by unfold fm;simp
 |x::r,lvl,left,hl,h=>by
  obtain⟨h1,h2,h3⟩:=oT h
  have hd:=ke x lvl left hl h1
  have:=va r lvl _ hd.2 h2
  rw[h3,List.length_cons];omega
theorem yu:∀(d:Nat) (v:Val) (lvl left:Int),0≤left→left≤100000→(eP v lvl left).1=0→41≤lvl+d→wfV d v
 |0,v,lvl,left,_,_,h,hd=>by
  cases v with
  |mk k t ks vs=>obtain⟨_,h1,_⟩:=jL h;omega
 |d+1,v,lvl,left,hl,hl2,h,hd=>by
  cases v with
  |mk k t ks vs =>
   obtain⟨h0,h1,h2,h3,h4⟩:=jL h
   obtain⟨o1,o2,_,_,_,o3,_⟩:=ko h2
   have hlen:=va vs (lvl+1) (left-1) (by omega) h3
   have hle:=kq vs (lvl+1) (left-1) (by omega)
   refine .mk o1 o2 o3 (by omega) (fun v hv=>?_)
   have key:∀(l:List Val) (lf:Int),0≤lf→lf≤100000→(fm l (lvl+1) lf).1=0→v∈l→∃x,0≤x∧x≤100000∧(eP v (lvl+1) x).1=0:=by
    intro l
    induction l with
    |nil=>intro lf _ _ _ hv;cases hv
    |cons y r ih =>
     intro lf g1 g2 g3 hv
     obtain⟨e1,e2,_⟩:=oT g3
     rcases List.mem_cons.1 hv with rfl | hv
     ·exact⟨lf,g1,g2,e1⟩
     ·have hd:=ke y _ lf g1 e1
      exact ih _ hd.2 (by omega) e2 hv
   obtain⟨x,x1,x2,x3⟩:=key vs (left-1) (by omega) (by omega) h3 hv
   exact yu d v (lvl+1) x x1 x2 x3 (by omega)
end Go.Idl
namespace Go.Idl
theorem vF (li:Bool) (l:Nat):(dR li l).length≤1+2*l:=by
 cases li with
 |false=>simp[dR]
 |true=>simp[dR,wV];omega
theorem Cs (li:Bool) (k:Int) (ks:List (List UInt8)) (i:Nat) (hs:∀s,s∈ks→s.length≤1000):(gD li k ks i).length≤6004:=by
 unfold gD
 split
 ·have:(ks.getD i []).length≤1000:=by
   rw[List.getD_eq_getElem?_getD]
   cases h:ks[i]? with
   |none=>simp
   |some s=>exact hs s (List.mem_of_getElem? h)
  have h2:=kt (ks.getD i [])
  have h3:(if li then [32] else ([]:List UInt8)).length≤1:=by split<;>simp
  simp only[fO,List.length_append,List.length_cons,List.length_nil]
  omega
 ·simp
theorem vD (li:Bool) (lvl:Nat) (hl:lvl≤101) (k:Int) (ks ts:List (List UInt8)) (hs:∀s,s∈ks→s.length≤1000):∀(l:List Nat) (n:Nat),(hH li lvl k ks ts n l).length≤(l.map fun i=>6300+(ts.getD i []).length).sum
 |[],n=>by simp[hH]
 |i::r,n=>by
  have h1:=vD li lvl hl k ks ts hs r (n+1)
  have h2:=vF li lvl
  have h3:=Cs li k ks i hs
  have h4:(if 0<n then [44] else ([]:List UInt8)).length≤1:=by split<;>simp
  unfold hH
  simp only[List.length_append,List.map_cons,List.sum_cons]
  omega
theorem sX (ks:List (List UInt8)) (i:Nat):∀l:List Nat,(t8 ks i l).Perm (i::l)
 |[]=>.refl _
 |j::r=>by
  unfold t8
  split
  ·exact .refl _
  ·exact ((sX ks i r).cons j).trans (.swap i j r)
theorem sj (ks:List (List UInt8)):∀n:Nat,(uP ks n).Perm (List.range n)
 |0=>.refl _
 |n+1=>by
  rw[uP,List.range_succ]
  exact (sX ks n _).trans (((sj ks n).cons n).trans (by
   have:=List.perm_append_comm (l₁:=[n]) (l₂:=List.range n)
   simpa using this))
theorem Ac (so:Bool) (k:Int) (ks:List (List UInt8)) (n:Nat):(gL so k ks n).Perm (List.range n):=by
 unfold gL;split
 ·exact sj ks n
 ·exact .refl _
theorem lM (ts:List (List UInt8)) (f:List UInt8→Nat):((List.range ts.length).map fun i=>f (ts.getD i []))=ts.map f:=by
 apply List.ext_getElem
 ·simp
 ·intro i h1 h2
  have h:i<ts.length:=by simpa using h2
  simp[List.getD_eq_getElem?_getD,h]
theorem zi (so li:Bool) (d lvl:Nat) (lv:Int) (ih:∀(v:Val) (left:Int),0≤left→(eP v lv left).1=0→((prV so li v lvl).length:Int)+6300+13000*(eP v lv left).2≤13000*left):∀(vs:List Val) (left:Int),0≤left→(fm vs lv left).1=0→((((prL so li vs lvl).map fun t=>6300+t.length).sum:Nat):Int)+13000*(fm vs lv left).2≤13000*left
 |[],left,_,_=>by unfold prL fm;simp
 |v::vs,left,h0,h=>by
  obtain⟨h1,h2,h3⟩:=oT h
  have hd:=ke v lv left h0 h1
  have a:=ih v left h0 h1
  have b:=zi so li d lvl lv ih vs _ hd.2 h2
  rw[h3]
  unfold prL
  simp only[List.map_cons,List.sum_cons]
  omega
theorem yt (so li:Bool):∀(d:Nat) (v:Val) (lvl:Nat) (lv left:Int),0≤left→(eP v lv left).1=0→41≤lv+d→lvl+d≤100→((prV so li v lvl).length:Int)+6300+13000*(eP v lv left).2≤13000*left
 |0,.mk k t ks vs,lvl,lv,left,_,h,hd,_=>by obtain⟨_,h1,_⟩:=jL h;omega
 |d+1,.mk k t ks vs,lvl,lv,left,h0,h,hd,hd2=>by
  obtain⟨c0,c1,c2,c3,c4⟩:=jL h
  obtain⟨o1,o2,_,o3,o4,_,_,_⟩:=ko c2
  have hs:=zi so li d (lvl+1) (lv+1) (fun v lf g1 g2=>yt so li d v (lvl+1) (lv+1) lf g1 g2 (by omega) (by omega)) vs (left-1) (by omega) c3
  rw[c4]
  have hle:=kq vs (lv+1) (left-1) (by omega)
  generalize (fm vs (lv+1) (left-1)).2=rest at *
  have hown:(prV so li (.mk k t ks vs) lvl).length≤6700+((prL so li vs (lvl+1)).map fun t=>6300+t.length).sum:=by
   unfold prV
   split
   ·simp;omega
   ·split
    ·omega
    ·split
     ·have:=kt t
      simp only[fO,List.length_cons,List.length_append,List.length_nil];omega
     ·have hi:=vD li (lvl+1) (by omega) k ks (prL so li vs (lvl+1)) o4 (gL so k ks vs.length) 0
      have hp:=((Ac so k ks vs.length).map fun i=>6300+((prL so li vs (lvl+1)).getD i []).length).sum_nat
      have hr:=lM (prL so li vs (lvl+1)) (fun t=>6300+t.length)
      rw[tD] at hr
      rw[hp,hr] at hi
      have hl:=vF li lvl
      have h4:(if vs=[] then [] else dR li lvl).length≤1+2*lvl:=by
       split
       ·simp
       ·exact hl
      simp only[List.length_cons,List.length_append,List.length_nil]
      omega
  omega
theorem AF (so li:Bool) (v:Val) (h:fk v=0):(prV so li v 0).length≤26000000:=by
 have hd:=ke v 1 2000 (by omega) h
 have:=yt so li 41 v 0 1 2000 (by omega) h (by omega) (by omega)
 omega
end Go.Idl
namespace Go.Idl
attribute [local go_sem] cn cu gI gS bn bU cC cU cV c6 dd c7 cf bG ct bC bF da cv bB dh bD aN aX aO aM aA dm dc cm cg dj cZ bY eC dk bZ dg cY c9 de cx cd ck bA b8 c8 bw aY bE bu cr aL aB aP ay cP cO bo aZ bp bP bq bR bt bQ List.flatMap_cons List.flatMap_nil
def kg (so li:Bool) (v:Val):List UInt8×Int:=if fk v≠0 then ([],fk v) else if 100000<(prV so li v 0).length then ([],20) else (prV so li v 0,0)
theorem zT (so li:Bool) (hO:Ev so) (v:Val) (c:List IV) (hc:ValR v c) (ho:okV v) (m:IM) :
  cw (.f 52) [.agg c,.agg [.bool so,.bool li]] m=some (.tup [.str (kg so li v).1,.int .i64 (kg so li v).2],m):=by
 have hml:ao=1099511627776:=rfl
 obtain⟨k,t,K,V,rfl,hK,hV,_,_⟩:=hc.cells
 have h1:=fun K2:IV→IM→Option (IV×IM)=>af (yF v _ m hc ho) (by simp[go_sem,hK,hV]) K2
 apply Co
 by_cases g:fk v=0
 ·have hg:¬fk v≠0:=fun h=>h g
  rw[g] at h1
  have hb:=AF so li v g
  have hwf:=yu 41 v 1 2000 (by omega) (by omega) g (by omega)
  have hm1:(bJ m (wrP so li [] .any)).get m.size=wrP so li [] .any:=gK _ _
  have hW:=EA so li hO m.size 41 v _ hwf hc 0 [] .any _ (by omega) hm1 (.inl rfl) (by simp only[List.length_nil];omega)
  rw[eJ,List.nil_append] at hW
  have h2:=fun K2:IV→IM→Option (IV×IM)=>af hW (by simp[go_sem,hK,hV]) K2
  have hm2:(bJ m (wrP so li (prV so li v 0) (.own 1))).get m.size=wrP so li (prV so li v 0) (.own 1):=gK _ _
  have h2':∀K2:IV→IM→Option (IV×IM),aw cw (.f 82) [.pB m.size 0,.agg [.int .i64 k,.str t,K,V],.int .i64 0] [] (bJ m (.cells [.bool so,.bool li,.nilSlice] [.any,.any,.any])) K2=K2 (.tup []) (bJ m (wrP so li (prV so li v 0) (.own 1))):=h2
  have hst:∀w:IV,w.refsDeep=some 0→settle m (bJ m (wrP so li (prV so li v 0) (.own 1))) w=some (w,m):=fun w hw=>gf hw
  simp only[kg,if_neg hg]
  by_cases g2:100000<(prV so li v 0).length
  ·have g3:((prV so li v 0).length:Int)>100000:=by omega
   rw[if_pos g2]
   simp only[F52,ah hK,ah hV,h1,go_sem]
   simp only[bne_self_eq_false,Bool.false_eq_true,if_false,h2',go_sem,fp hm2,aE (tW _),decide_eq_true g3,if_true]
   exact hst _ rfl
  ·have g3:¬((prV so li v 0).length:Int)>100000:=by omega
   rw[if_neg g2]
   simp only[F52,ah hK,ah hV,h1,go_sem]
   simp only[bne_self_eq_false,Bool.false_eq_true,if_false,h2',go_sem,fp hm2,aE (tW _),decide_eq_false g3,aE (ue _)]
   exact hst _ rfl
 ·have g':(fk v != 0)=true:=by simpa using g
  simp only[kg]
  rw[if_pos g]
  simp only[F52,ah hK,ah hV,h1,go_sem,g',if_true]
  exact aL rfl
theorem DZ (v:Val) (c:List IV) (hc:ValR v c) (ho:okV v) (m:IM) :
  cw (.f 18) [.agg c] m=some (.tup [.str (kg false false v).1,.int .i64 (kg false false v).2],m):=by
 have h:=zT false false xU v c hc ho m
 obtain⟨k,t,K,V,rfl,hK,hV,_,_⟩:=hc.cells
 have h1:=fun K2:IV→IM→Option (IV×IM)=>af h (by simp[go_sem,hK,hV]) K2
 apply Bs
 simp only[F18,ah hK,ah hV,h1,go_sem]
 exact aL rfl
end Go.Idl
namespace Go.Idl
set_option maxRecDepth 100000
theorem f7:tab.fns 7=some i7:=by rfl
theorem p7:ae 7=none:=by rfl
def ty7:Tys:=tyG [(.one .str,[0,3,11,16,22,24,29,34,43,44,49,60,63]),(.one .bool,[2,5,7,18,19,20,27,31,36,38,39,40,41,42,45,46,47,55,56,71,72,77,78,79,80,81]),(.one (.int .i64),[4,6,8,10,12,14,15,25,26,32,37,52,53,54,61,66,67,68,69,70]),(.one .own,[9,13]),(.one .sl,[17]),(.tup [.one .str,.one (.int .i64)],[21,23,57,59]),(.tup [.one .bool,.one (.int .i64)],[28,30,33,35]),(.tup [.agg [.int .i64,.str,.sl,.sl],.one (.int .i64),.one (.int .i64)],[48,50,62,64]),(.agg [.int .i64,.str,.sl,.sl],[51,58,65,73,74,75,76])]
def JB:XP:=[⟨.normal,[(0,.any),(47,.any)],[],[]⟩]
def JS:XP:=[⟨.normal,[(2,.any)],[.dead 0,.dead 1],[]⟩]
def pl7:Pl:=(.n none .z (.n none .z (.n none .z (.n none .z (.n none .z (.n none .z (.n none (.n (some JB) .z .z) (.n none .z (.n none .z (.n none .z (.n none .z (.n (some JS) .z .z))))))))))))
noncomputable def yE (s a:List UInt8) (is was:Bool) (m:IM):Option LR:=aR (!is) (some (.normal,[.str s,.bool true],[],m)) (aR was (some (.normal,[.str s,.bool !a==s],[],m)) (some (.normal,[.str s,.bool false],[],m)))
noncomputable def CW (e1 e2 n:Int) (s:List UInt8) (v v1:IV) (n1:Int) (s1:List UInt8) (v2 v3:IV) (m:IM):Option LR:=aR (IntKind.wrap .i64 (e1+e2)==0) (aw cw (.f 16) [.agg [.int .i64 n1,.str s1,v2,v3]] [] m fun v0 m1=>asA v0 fun l2=>unc l2 fun v3 l4=>asI .i64 v3 fun n5=>unc l4 fun v6 l7=>asS v6 fun s8=>unc l7 fun v9 l10=>unc l10 fun v11 l12=>unn l12 (aw cw (.f 16) [.agg [.int .i64 n,.str s,v,v1]] [] m1 fun v13 m14=>asA v13 fun l15=>uV l15 fun n18 s21 v22 v24 l25=>unn l25 (aw cw (.f 15) [.agg [.int .i64 n5,.str s8,v9,v11],.agg [.int .i64 n18,.str s21,v22,v24]] [] m14 fun v26 m27=>asB v26 fun b28=>aR b28 (aw cw (.f 10) [] [] m27 fun v29 m30=>asB v29 fun b31=>some (.normal,[.bool b31],[],m30)) (some (.normal,[.bool false],[],m27))))) (some (.normal,[.bool false],[],m))
noncomputable def F7 (s:List UInt8) (m:IM):Option (IV×IM):=aw cw (.f 9) [.sl [.str s] 1] [] m fun v0 m1=>asB v0 fun b2=>aR (!b2) (aw cw (.f 10) [] [] m1 fun v3 m4=>asB v3 fun b5=>settle m m4 (.bool b5)) (aw cw (.f 11) [.str s] [] m1 fun v6 m7=>asT v6 fun l8=>unc l8 fun v9 l10=>asS v9 fun s11=>uI .i64 l10 fun n14 l13=>unn l13 (aR (n14 != 0) (settle m m7 (.bool false)) (aw cw (.f 31) [.str s11] [] m7 fun v15 m16=>asT v15 fun l17=>unc l17 fun v18 l19=>asB v18 fun b20=>uI .i64 l19 fun n23 l22=>unn l22 (aw cw (.f 31) [.str s] [] m16 fun v24 m25=>asT v24 fun l26=>unc l26 fun v27 l28=>asB v27 fun b29=>uI .i64 l28 fun n32 l31=>unn l31 (cI (yE s s11 b20 b29 m25) fun e33 l34 o35 m36=>exC .normal e33 (unc l34 fun v37 l38=>asS v37 fun s39=>unc l38 fun v40 l41=>asB v40 fun b42=>unn l41 (dL o35 (aR b42 (settle m m36 (.bool false)) (aw cw (.f 13) [.str s39] [] m36 fun v43 m44=>asT v43 fun l45=>unc l45 fun v46 l47=>asA v46 fun l48=>uV l48 fun n51 s54 v55 v57 l58=>unn l58 (uI .i64 l47 fun n61 l60=>uI .i64 l60 fun n64 l63=>unn l63 (bm v55 (bm v57 (aR (n64 != 0) (aw cw (.f 10) [] [] m44 fun v65 m66=>asB v65 fun b67=>settle m m66 (.bool b67)) (aw cw (.f 18) [.agg [.int .i64 n51,.str s54,v55,v57]] [] m44 fun v68 m69=>asT v68 fun l70=>unc l70 fun v71 l72=>asS v71 fun s73=>uI .i64 l72 fun n76 l75=>unn l75 (aw cw (.f 13) [.str s73] [] m69 fun v77 m78=>asT v77 fun l79=>unc l79 fun v80 l81=>asA v80 fun l82=>uV l82 fun n85 s88 v89 v91 l92=>unn l92 (uI .i64 l81 fun n95 l94=>uI .i64 l94 fun n98 l97=>unn l97 (bm v89 (bm v91 (cI (CW n76 n98 n51 s54 v55 v57 n85 s88 v89 v91 m78) fun e99 l100 o101 m102=>exC .normal e99 (unc l100 fun v103 l104=>asB v103 fun b105=>unn l104 (dL o101 (settle m m102 (.bool b105)))) none)))))))))))))) none)))))
theorem Kw (s:List UInt8) (m:IM):fK ty7 pl7 i7 cw [.str s] m=F7 s m:=by kernel_rfl
theorem EM (s:List UInt8) (m:IM) {res:IV×IM}(h:F7 s m=some res):cw (.f 7) [.str s] m=some res:=a8 p7 f7 ((Kw s m).trans h)
end Go.Idl
namespace Go.Idl
theorem sF (s s':List UInt8):∀(k i p:Nat),(∀j,i≤j→j<i+k→s[j]?=s'[j]?)→dcr s k i p=dcr s' k i p
 |0,_,_,_=>rfl
 |k+1,i,p,h=>by
  unfold dcr
  rw[h i (Nat.le_refl _) (by omega)]
  cases s'[i]? with
  |none=>rfl
  |some b =>
   simp only
   split
   ·rfl
   ·exact sF s s' k (i+1) _ (fun j h1 h2=>h j (by omega) (by omega))
theorem Cz (s:List UInt8):∀(k i p q:Nat),dcr s k i p=some q→∀j,i≤j→j<i+k→∃b,s[j]?=some b∧128≤b.toNat
 |0,i,p,q,_,j,h1,h2=>by omega
 |k+1,i,p,q,h,j,h1,h2=>by
  unfold dcr at h
  cases hb:s[i]? with
  |none=>rw[hb] at h;cases h
  |some b =>
   rw[hb] at h
   simp only at h
   split at h
   ·cases h
   ·rename_i g
    by_cases e:j=i
    ·subst e;exact⟨b,hb,by omega⟩
    ·exact Cz s k (i+1) _ q h j (by omega) (by omega)
theorem zW (c:Nat):cA c≤4∧(cA c=1↔c<128)∧(2≤cA c→128≤c):=by
 unfold cA
 repeat' split
 all_goals omega
theorem BA {s:List UInt8}(h:(dS s).2≠0):(dS s).2≤s.length∧1≤(dS s).2∧(∀r,dS (s.take (dS s).2++r)=dS s)∧((∃c,s.take (dS s).2=[c]∧c.toNat<128)∨∀b,b∈s.take (dS s).2→128≤b.toNat):=by
 cases s with
 |nil=>exact (h rfl).elim
 |cons c t =>
  obtain⟨_,w1,w2⟩:=zW c.toNat
  have hd:dS (c::t)=(if cA c.toNat=0∨(c::t).length<cA c.toNat then (0,0) else
   match dcr (c::t) (cA c.toNat-1) 1 (if 1<cA c.toNat then c.toNat%(256/2^(cA c.toNat+1)) else c.toNat) with
   |none=>(0,0)
   |some p=>if bg p=true∧jb p=(c::t).take (cA c.toNat) then (p,cA c.toNat) else (0,0)):=rfl
  rw[hd] at h
  by_cases g:cA c.toNat=0∨(c::t).length<cA c.toNat
  ·rw[if_pos g] at h;exact (h rfl).elim
  ·rw[if_neg g] at h hd
   cases hc:dcr (c::t) (cA c.toNat-1) 1 (if 1<cA c.toNat then c.toNat%(256/2^(cA c.toNat+1)) else c.toNat) with
   |none=>rw[hc] at h;exact (h rfl).elim
   |some p =>
    rw[hc] at h hd
    simp only at h hd
    by_cases g2:bg p=true∧jb p=(c::t).take (cA c.toNat)
    ·rw[if_pos g2] at hd
     rw[hd]
     simp only
     generalize hn:cA c.toNat=n at *
     have hn1:1≤n:=by omega
     have hnl:n≤(c::t).length:=by omega
     obtain⟨k,rfl⟩:∃k,n=k+1:=⟨n-1,by omega⟩
     have hlt:(t.take k).length=k:=by rw[List.length_take];simp only[List.length_cons] at hnl;omega
     refine⟨hnl,hn1,fun r=>?_,?_⟩
     ·rw[List.take_succ_cons,List.cons_append]
      have hd2:dS (c::(t.take k++r))=(if cA c.toNat=0∨(c::(t.take k++r)).length<cA c.toNat then (0,0) else
       match dcr (c::(t.take k++r)) (cA c.toNat-1) 1 (if 1<cA c.toNat then c.toNat%(256/2^(cA c.toNat+1)) else c.toNat) with
       |none=>(0,0)
       |some p=>if bg p=true∧jb p=(c::(t.take k++r)).take (cA c.toNat) then (p,cA c.toNat) else (0,0)):=rfl
      rw[hd2,hn,if_neg (by simp only[List.length_cons,List.length_append,hlt];omega)]
      have e:dcr (c::(t.take k++r)) (k+1-1) 1 (if 1<k+1 then c.toNat%(256/2^(k+1+1)) else c.toNat)=some p:=by
       rw[←hc]
       apply sF
       intro j h1 h2
       obtain⟨i,rfl⟩:∃i,j=i+1:=⟨j-1,by omega⟩
       rw[List.getElem?_cons_succ,List.getElem?_cons_succ,List.getElem?_append_left (by rw[hlt];omega),List.getElem?_take,if_pos (by omega)]
      rw[e]
      simp only
      have e2:(c::(t.take k++r)).take (k+1)=(c::t).take (k+1):=by
       rw[List.take_succ_cons,List.take_succ_cons,List.take_append_of_le_length (by omega),List.take_of_length_le (by omega)]
      rw[e2,if_pos g2]
     ·by_cases k0:k=0
      ·subst k0
       exact .inl ⟨c,rfl,w1.1 rfl⟩
      ·refine .inr (fun b hb=>?_)
       rw[List.take_succ_cons] at hb
       rcases List.mem_cons.1 hb with rfl | hb
       ·exact w2 (by omega)
       ·obtain⟨i,hi,rfl⟩:=List.getElem_of_mem hb
        rw[hlt] at hi
        obtain⟨b,e1,e2⟩:=Cz _ _ _ _ _ hc (i+1) (by omega) (by omega)
        rw[List.getElem?_cons_succ] at e1
        rw[List.getElem_take]
        have hit:i<t.length:=by rw[List.length_take] at hlt;omega
        have:t[i]?=some t[i]:=List.getElem?_eq_getElem hit
        rw[this] at e1
        cases e1;exact e2
    ·rw[if_neg g2] at h;exact (h rfl).elim
def C7 (x:List UInt8):Prop:=x≠[]∧(∀r,(ak (x++r)).2.1=true∧(ak (x++r)).1=x.length)∧((∃c,x=[c]∧c.toNat<128)∨∀b,b∈x→128≤b.toNat)
theorem Ax (s:List UInt8) (h:(dS s).2≠0):(ak s).2.1=true∧(ak s).1=(dS s).2:=by
 cases s with
 |nil=>exact (h rfl).elim
 |cons c t =>
  have e:=se c t
  cases hw:(ak (c::t)).2.1 with
  |true=>rw[hw,if_pos rfl] at e;rw[e];exact⟨rfl,rfl⟩
  |false=>rw[hw] at e;rw[e] at h;exact (h rfl).elim
theorem sJ {s:List UInt8}(h:(dS s).2≠0):C7 (s.take (dS s).2):=by
 obtain⟨h1,h2,h3,h4⟩:=BA h
 have hl:(s.take (dS s).2).length=(dS s).2:=by rw[List.length_take];omega
 refine⟨fun e=>by rw[e] at hl;simp at hl;omega,fun r=>?_,h4⟩
 have e:=h3 r
 have:=Ax (s.take (dS s).2++r) (by rw[e];exact h)
 rw[hl,this.2,e]
 exact⟨this.1,rfl⟩
theorem FL {s:List UInt8}(h:(ak s).2.1=true):C7 (s.take (ak s).1):=by
 cases s with
 |nil=>simp[ak] at h
 |cons c t =>
  have e:=se c t
  have hp:=iB _ h
  rw[h,if_pos rfl] at e
  have e2:(dS (c::t)).2=(ak (c::t)).1:=by rw[e]
  rw[←e2]
  exact sJ (by rw[e2];omega)
inductive Chs:List UInt8→Prop
 |nil:Chs []
 |cons {x r:List UInt8}:C7 x→Chs r→Chs (x++r)
theorem Chs.app {a b:List UInt8}(ha:Chs a) (hb:Chs b):Chs (a++b):=by
 induction ha with
 |nil=>exact hb
 |cons hx _ ih=>rw[List.append_assoc];exact .cons hx ih
theorem Chs.one {x:List UInt8}(h:C7 x):Chs x:=by simpa using Chs.cons h .nil
theorem rj:∀(k:Nat) (s:List UInt8) (a:Nat),s.length<k→lz k s a=none→Chs s
 |0,s,a,h,_=>by omega
 |k+1,[],a,_,_=>.nil
 |k+1,c::t,a,h,hv=>by
  rw[lz] at hv
  split at hv
  ·rename_i g
   have hp:=iB _ g
   have hm:max (ak (c::t)).1 1=(ak (c::t)).1:=by omega
   rw[hm] at hv
   have hr:=rj k _ _ (by rw[List.length_drop];simp only[List.length_cons] at h ⊢;omega) hv
   have:=Chs.cons (FL g) hr
   rwa [List.take_append_drop] at this
  ·cases hv
theorem vO {s:List UInt8}(h:Chs s):∀(k a:Nat),lz k s a=none:=by
 induction h with
 |nil=>intro k a;cases k<;>rfl
 | @cons x r hx _ ih =>
  intro k a
  cases k with
  |zero=>rfl
  |succ k =>
   obtain⟨h1,h2,_⟩:=hx
   obtain⟨h3,h4⟩:=h2 r
   have hl:1≤x.length:=by
    cases x with
    |nil=>exact (h1 rfl).elim
    |cons _ _=>simp
   cases hxr:x++r with
   |nil=>rfl
   |cons c t =>
    rw[lz,←hxr,if_pos h3,h4]
    have hm:max x.length 1=x.length:=by omega
    rw[hm,List.drop_left]
    exact ih _ _
theorem yL {s:List UInt8}:okS s=true↔Chs s:=by
 unfold okS
 rw[Option.isNone_iff_eq_none]
 exact⟨rj _ _ _ (by omega),fun h=>vO h _ _⟩
theorem E1:C7 [239,191,189]:=by
 have h:dS [239,191,189]=(65533,3):=by decide
 have:=sJ (s:=[239,191,189]) (by rw[h];simp)
 rw[h] at this
 exact this
theorem sZ (s0:List UInt8):∀(k a:Nat) (acc:List UInt8),Chs acc→Chs (visit (fR s0) k (s0.drop a) a acc).2
 |0,a,acc,h=>h
 |k+1,a,acc,h=>by
  cases hd:s0.drop a with
  |nil=>exact h
  |cons c t =>
   have hv:visit (fR s0) (k+1) (c::t) a acc=visit (fR s0) k (s0.drop (a+max (ak (c::t)).1 1)) (a+max (ak (c::t)).1 1) (acc++gN (s0.drop a) (ak (c::t))):=by
    simp only[visit,fR,if_true];rw[←hd,List.drop_drop]
   rw[hv]
   refine sZ s0 k _ _ (h.app (Chs.one ?_))
   rw[hd]
   unfold gN
   split
   ·rename_i g;exact FL g
   ·exact E1
theorem uW (s0:List UInt8):∀(k a:Nat) (acc:List UInt8),Chs (s0.drop a)→(s0.drop a).length<k→(visit (fR s0) k (s0.drop a) a acc).2=acc++s0.drop a
 |0,a,acc,_,h=>by omega
 |k+1,a,acc,hc,hk=>by
  cases hd:s0.drop a with
  |nil=>simp[visit]
  |cons c t =>
   have hv:visit (fR s0) (k+1) (c::t) a acc=visit (fR s0) k (s0.drop (a+max (ak (c::t)).1 1)) (a+max (ak (c::t)).1 1) (acc++gN (s0.drop a) (ak (c::t))):=by
    simp only[visit,fR,if_true];rw[←hd,List.drop_drop]
   rw[hv]
   have hlen:(c::t).length<k+1:=by rw[←hd];exact hk
   generalize hS:s0.drop a=S at *
   cases hc with
   |nil=>cases hd
   | @cons x r hx hr =>
    obtain⟨h1,h2,_⟩:=hx
    obtain⟨h3,h4⟩:=h2 r
    rw[hd] at h3 h4
    have hl:1≤x.length:=by
     cases x with
     |nil=>exact (h1 rfl).elim
     |cons _ _=>simp
    have hm:max x.length 1=x.length:=by omega
    have hdr:s0.drop (a+x.length)=r:=by rw[←List.drop_drop,hS,List.drop_left]
    rw[h4,hm,hdr]
    have ih:=uW s0 k (a+x.length) (acc++gN (x++r) (ak (c::t))) (by rw[hdr];exact hr) (by rw[hdr];rw[←hd,List.length_append] at hlen;omega)
    rw[hdr] at ih
    rw[ih]
    unfold gN
    rw[if_pos h3,h4,List.take_left,List.append_assoc,hd]
end Go.Idl
namespace Go.Idl
theorem dz {S x rest:List UInt8}{a:Nat}(h:S.drop a=x++rest) (i:Nat):S[a+i]?=(x++rest)[i]?:=by
 rw[←h,List.getElem?_drop]
def nnC (o:Option UInt8):Prop:=∀c,o=some c→fQ c=false∧c≠46∧c≠101∧c≠69∧c≠43∧c≠45
section
variable {S t rest:List UInt8}{a:Nat}(h:S.drop a=t++rest) (hn:nnC rest[0]?)
include h hn
theorem rl {i:Nat}(hi:i≤t.length) {c:UInt8}(hc:fQ c=true∨c=46∨c=101∨c=69∨c=43∨c=45):S[a+i]?=some c↔t[i]?=some c:=by
 rw[dz h]
 by_cases g:i<t.length
 ·rw[List.getElem?_append_left g]
 ·have e:i=t.length:=by omega
  subst e
  rw[List.getElem?_append_right (Nat.le_refl _),Nat.sub_self]
  constructor
  ·intro q
   obtain⟨h1,h2,h3,h4,h5,h6⟩:=hn c q
   rcases hc with q | q | q | q | q | q
   ·rw[q] at h1;cases h1
   ·exact (h2 q).elim
   ·exact (h3 q).elim
   ·exact (h4 q).elim
   ·exact (h5 q).elim
   ·exact (h6 q).elim
  ·intro q
   rw[List.getElem?_eq_none (Nat.le_refl _)] at q
   cases q
theorem FN:∀(m i k k':Nat),i+m=t.length→m<k→m<k'→dgB S k (a+i)=a+dgB t k' i
 |m,i,0,k',_,h1,_=>by omega
 |m,i,k+1,0,_,_,h1=>by omega
 |m,i,k+1,k'+1,e,h1,h2=>by
  rw[dgB,dgB]
  cases ht:t[i]? with
  |none =>
   have hm:i=t.length:=by
    have:=List.getElem?_eq_none_iff.1 ht
    omega
   have hs:S[a+i]?=rest[0]?:=by
    rw[dz h,hm,List.getElem?_append_right (Nat.le_refl _),Nat.sub_self]
   cases hr:S[a+i]? with
   |none=>rfl
   |some c =>
    rw[hs] at hr
    obtain⟨q,_⟩:=hn c hr
    simp only[q,Bool.false_eq_true,if_false]
  |some c =>
   have hlt:=bL ht
   have hs:S[a+i]?=some c:=by rw[dz h,List.getElem?_append_left hlt,ht]
   rw[hs]
   simp only
   cases hd:fQ c with
   |false=>rfl
   |true =>
    simp only[if_true]
    rw[Nat.add_assoc]
    exact FN (m-1) (i+1) k k' (by omega) (by omega) (by omega)
theorem uw {i:Nat}(hi:i≤t.length):dgB S (S.length+1) (a+i)=a+dgB t (t.length+1) i:=by
 have hl:(S.drop a).length=t.length+rest.length:=by rw[h,List.length_append]
 rw[List.length_drop] at hl
 exact FN h hn (t.length-i) i _ _ (by omega) (by omega) (by omega)
theorem Ly {i:Nat}(hi:i≤t.length):nm1 S (a+i)=a+nm1 t i:=by
 unfold nm1
 simp only[show S[a+i]?=some 45↔t[i]?=some 45 from rl h hn hi (by simp)]
 split<;>omega
theorem KO {i:Nat}(hi:i≤t.length):nmB S (a+i)=a+nmB t i:=by
 unfold nmB
 simp only[show S[a+i]?=some 45↔t[i]?=some 45 from rl h hn hi (by simp),show S[a+i]?=some 43↔t[i]?=some 43 from rl h hn hi (by simp)]
 split<;>omega
theorem Ld {i:Nat}(hi:i≤t.length):nm2 S (a+i)=a+nm2 t i:=by
 unfold nm2
 simp only[show S[a+i]?=some 48↔t[i]?=some 48 from rl h hn hi (.inl (by decide))]
 split
 ·omega
 ·exact uw h hn hi
theorem Lc {i:Nat}(hi:i≤t.length):nm3 S (a+i)=(a+(nm3 t i).1,(nm3 t i).2):=by
 unfold nm3
 simp only[show S[a+i]?=some 46↔t[i]?=some 46 from rl h hn hi (by simp)]
 split
 ·rename_i q
  have:=bL q
  have e:=uw h hn (i:=i+1) (by omega)
  rw[←Nat.add_assoc] at e
  rw[e]
  simp only[Prod.mk.injEq,true_and,decide_eq_decide]
  omega
 ·rfl
theorem KT {i:Nat}(hi:i≤t.length):nm4 S (a+i)=(a+(nm4 t i).1,(nm4 t i).2):=by
 unfold nm4
 simp only[show S[a+i]?=some 101↔t[i]?=some 101 from rl h hn hi (by simp),show S[a+i]?=some 69↔t[i]?=some 69 from rl h hn hi (by simp)]
 split
 ·rename_i q
  have hlt:i<t.length:=by rcases q with q | q<;>exact bL q
  have eB:=KO h hn (i:=i+1) (by omega)
  rw[←Nat.add_assoc] at eB
  have e:=uw h hn (i:=nmB t (i+1)) (yi (by omega))
  rw[eB,e]
  simp only[Prod.mk.injEq,true_and,decide_eq_decide]
  omega
 ·rfl
theorem IC:eR S a=(a+(eR t 0).1,(eR t 0).2):=by
 have h0:=Ly h hn (i:=0) (Nat.zero_le _)
 rw[Nat.add_zero] at h0
 have l1:nm1 t 0≤t.length:=pF (Nat.zero_le _)
 have l2:=uG l1
 have h1:=uw h hn l1
 have h2:=Ld h hn l1
 have h3:=Lc h hn l2
 have h4:=KT h hn (tE l2)
 unfold eR
 rw[h0,h1,h2,h3]
 by_cases g:dgB t (t.length+1) (nm1 t 0)=nm1 t 0
 ·rw[if_pos g,if_pos (by omega)]
 ·rw[if_neg g,if_neg (by omega)]
  simp only
  split
  ·exact h4
  ·rfl
end
theorem oX:∀(w:List UInt8) (S rest:List UInt8) (a:Nat),S.drop a=w++rest→il S w a=.ok () (a+w.length)
 |[],_,_,_,_=>rfl
 |c::r,S,rest,a,h=>by
  have h0:=dz h 0
  rw[Nat.add_zero] at h0
  have e:S[a]?=some c:=h0
  have hd:S.drop (a+1)=r++rest:=by
   rw[←List.drop_drop,h];rfl
  rw[il,if_pos e,oX r S rest (a+1) hd,List.length_cons]
  congr 1;omega
theorem B6 (k:Nat) (h:k<16):rb (nu k)=(k:Int):=by
 have:∀k,k<16→rb (nu k)=(k:Int):=by decide +kernel
 exact this k h
theorem DH (c:UInt8) (S rest:List UInt8) (a:Nat) (hc:c.toNat<128) (hq:(dG c).length≠1) (h:S.drop a=dG c++rest):S[a]?=some 92∧mT S (a+1)=.ok [c] (a+(dG c).length):=by
 have e0:=dz h 0
 have e1:=dz h 1
 rw[Nat.add_zero] at e0
 rw[CD] at h hq e0 e1 ⊢
 cases hF:quF c quT with
 |some b =>
  rw[hF] at e0 e1
  have e0:S[a]?=some 92:=e0
  have e1:S[a+1]?=some b:=e1
  refine⟨e0,?_⟩
  rw[mT.eq_1,e1]
  have key:∀n,n<256→wB shT (quF (UInt8.ofNat n) quT)=(quF (UInt8.ofNat n) quT).map fun _=>UInt8.ofNat n:=by decide +kernel
  have:=key c.toNat c.toNat_lt
  rw[UInt8.ofNat_toNat,hF] at this
  simp only[Option.map_some] at this
  rw[this]
  rfl
 |none =>
  rw[hF] at h hq e0 e1
  simp only at h hq e0 e1 ⊢
  by_cases g:c.toNat<32
  ·rw[if_pos g] at h hq e0 e1 ⊢
   have e0:S[a]?=some 92:=e0
   have e1:S[a+1]?=some 117:=e1
   have e2:S[a+1+1]?=some 48:=dz h 2
   have e3:S[a+1+1+1]?=some 48:=dz h 3
   have e4:S[a+1+1+1+1]?=some (nu (c.toNat/16)):=dz h 4
   have e5:S[a+1+1+1+1+1]?=some (nu (c.toNat%16)):=dz h 5
   refine⟨e0,?_⟩
   have x1:=B6 (c.toNat/16) (by omega)
   have x2:=B6 (c.toNat%16) (by omega)
   have x0:rb 48=0:=by decide +kernel
   have hX:gP S 4 (a+1+1) 0=.ok (c.toNat:Int) (a+6):=by
    rw[gP,e2]
    simp only[x0]
    rw[if_neg (by omega),gP,e3]
    simp only[x0]
    rw[if_neg (by omega),gP,e4]
    simp only[x1]
    rw[if_neg (by omega),gP,e5]
    simp only[x2]
    rw[if_neg (by omega),gP]
    congr 1
    omega
   have hp:bg (c.toNat:Int)=true:=by simp[bg];omega
   have hE:vb (c.toNat:Int)=[c]:=by
    rw[vb.eq_1,show ((c.toNat:Int)).toNat=c.toNat from rfl,ox c.toNat hp,jb.eq_1]
    rw[if_pos hc,UInt8.ofNat_toNat]
   have hesc:wB shT (some 117)=none:=by decide
   rw[mT.eq_1,e1,hesc]
   simp only
   rw[if_pos trivial,hX]
   simp only
   rw[if_pos hp,hE]
   rfl
  ·rw[if_neg g] at hq
   exact (hq rfl).elim
theorem vX {c:UInt8}(h:(dG c).length=1):dG c=[c]∧¬c.toNat<32∧c≠34∧c≠92:=by
 have key:∀n,n<256→(dG (UInt8.ofNat n)).length=1→dG (UInt8.ofNat n)=[UInt8.ofNat n]∧¬(UInt8.ofNat n).toNat<32∧UInt8.ofNat n≠34∧UInt8.ofNat n≠92:=by decide +kernel
 have:=key c.toNat c.toNat_lt
 rw[UInt8.ofNat_toNat] at this
 exact this h
theorem vw {c:UInt8}(h:128≤c.toNat):dG c=[c]∧¬c.toNat<32∧c≠34∧c≠92:=by
 have key:∀n,n<256→128≤(UInt8.ofNat n).toNat→(dG (UInt8.ofNat n)).length=1:=by decide +kernel
 have:=key c.toNat c.toNat_lt
 rw[UInt8.ofNat_toNat] at this
 exact vX (this h)
theorem yZ:∀x:List UInt8,(∀b,b∈x→128≤b.toNat)→x.flatMap dG=x
 |[],_=>rfl
 |c::r,h=>by
  rw[List.flatMap_cons,(vw (h c List.mem_cons_self)).1,yZ r (fun b hb=>h b (List.mem_cons_of_mem _ hb))]
  rfl
theorem yJ (S rest:List UInt8) {s:List UInt8}(hs:Chs s):∀(n a:Nat) (acc:List UInt8),S.drop a=s.flatMap dG++34::rest→S.length<a+n→iv S n a acc=some (.ok (acc++s) (a+(s.flatMap dG).length+1)):=by
 induction hs with
 |nil =>
  intro n a acc h hn
  have e0:=dz h 0
  rw[Nat.add_zero] at e0
  have e0:S[a]?=some 34:=e0
  have:=bL e0
  obtain⟨k,rfl⟩:∃k,n=k+1:=⟨n-1,by omega⟩
  rw[iv,e0]
  simp
 | @cons x r hx hr ih =>
  intro n a acc h hn
  obtain⟨x1,x2,x3⟩:=hx
  rw[List.flatMap_append,List.append_assoc] at h
  have hlen:(S.drop a).length=(x.flatMap dG).length+(r.flatMap dG++34::rest).length:=by rw[h,List.length_append]
  rw[List.length_drop] at hlen
  have hq:=tH x
  have hxl:1≤x.length:=by
   cases x with
   |nil=>exact (x1 rfl).elim
   |cons _ _=>simp
  obtain⟨k,rfl⟩:∃k,n=k+1:=⟨n-1,by omega⟩
  have plain:x.flatMap dG=x→(∃c,x[0]?=some c∧¬c.toNat<32∧c≠34∧c≠92)→iv S (k+1) a acc=some (.ok (acc++(x++r)) (a+((x++r).flatMap dG).length+1)):=by
   intro g ⟨c,g0,g1,g2,g3⟩
   rw[g] at h
   have e0:=dz h 0
   rw[Nat.add_zero,List.getElem?_append_left (by omega),g0] at e0
   obtain⟨y1,y2⟩:=x2 (r.flatMap dG++34::rest)
   rw[←h] at y1 y2
   have hd:S.drop (a+x.length)=r.flatMap dG++34::rest:=by rw[←List.drop_drop,h,List.drop_left]
   have ht:(S.drop a).take x.length=x:=by rw[h,List.take_left]
   rw[iv,e0]
   simp only[if_neg g1,if_neg g2,if_neg g3,y1,if_true,y2,ht]
   rw[ih k (a+x.length) (acc++x) hd (by omega),List.flatMap_append,g,List.length_append,List.append_assoc]
   congr 2;omega
  rcases x3 with ⟨c,rfl,hc⟩ | hbig
  ·by_cases g:(dG c).length=1
   ·obtain⟨g0,g1,g2,g3⟩:=vX g
    exact plain (by simp[g0]) ⟨c,rfl,g1,g2,g3⟩
   ·have hh:S.drop a=dG c++(r.flatMap dG++34::rest):=by simpa using h
    obtain⟨e0,e1⟩:=DH c S _ a hc g hh
    have hd:S.drop (a+(dG c).length)=r.flatMap dG++34::rest:=by rw[←List.drop_drop,hh,List.drop_left]
    have hc1:1≤(dG c).length:=by
     have:=tH [c]
     simpa using this
    rw[iv,e0]
    simp only[e1]
    rw[if_neg (by decide),if_neg (by decide),if_pos trivial,ih k _ _ hd (by omega),List.flatMap_append]
    simp[List.append_assoc]
    omega
  ·refine plain (yZ x hbig) ?_
   cases x with
   |nil=>exact (x1 rfl).elim
   |cons c t =>
    obtain⟨_,q1,q2,q3⟩:=vw (hbig c List.mem_cons_self)
    exact⟨c,rfl,q1,q2,q3⟩
end Go.Idl
namespace Go.Idl
theorem yy (S X:List UInt8) (hX:∀c,X[0]?=some c→ik c=false):∀(W:List UInt8) (k a:Nat),(∀b,b∈W→ik b=true)→S.drop a=W++X→(W.length<k∨W=[])→rS S k a=a+W.length
 |[],0,a,_,_,_=>rfl
 |[],k+1,a,_,h,_=>by
  have h0:=dz (x:=[]) h 0
  rw[Nat.add_zero,List.nil_append] at h0
  rw[rS,h0]
  cases hc:X[0]? with
  |none=>rfl
  |some c=>simp only[hX c hc,Bool.false_eq_true,if_false];rfl
 |b::r,0,a,_,_,hk=>by rcases hk with h | h;exact (Nat.not_lt_zero _ h).elim;cases h
 |b::r,k+1,a,hW,h,hk=>by
  have h0:=dz (x:=b::r) h 0
  have h0:S[a]?=some b:=h0
  have hd:S.drop (a+1)=r++X:=by rw[←List.drop_drop,h];rfl
  have:=yy S X hX r k (a+1) (fun c hc=>hW c (List.mem_cons_of_mem _ hc)) hd (by
   rcases hk with h | h
   ·simp only[List.length_cons] at h;exact .inl (by omega)
   ·cases h)
  rw[rS,h0]
  simp only[hW b List.mem_cons_self,if_true]
  rw[this,List.length_cons];omega
theorem j7 {S W X:List UInt8}{a:Nat}(hW:∀b,b∈W→ik b=true) (h:S.drop a=W++X) (hX:∀c,X[0]?=some c→ik c=false):blk S a=a+W.length:=by
 refine yy S X hX W _ a hW h ?_
 have hl:(S.drop a).length=W.length+X.length:=by rw[h,List.length_append]
 rw[List.length_drop] at hl
 by_cases g:a≤S.length
 ·exact .inl (by omega)
 ·refine .inr (List.length_eq_zero_iff.1 (by omega))
theorem Cc:∀(n:Nat) (b:UInt8),b∈kR [32,32] n→ik b=true
 |0,b,h=>by cases h
 |n+1,b,h=>by
  rw[kR] at h
  rcases List.mem_append.1 h with h | h
  ·simp only[List.mem_cons,List.not_mem_nil,or_false,or_self] at h;subst h;rfl
  ·exact Cc n b h
theorem xy (li:Bool) (l:Nat) (b:UInt8) (h:b∈dR li l):ik b=true:=by
 unfold dR at h
 split at h
 ·rcases List.mem_cons.1 h with h | h
  ·subst h;rfl
  ·exact Cc l b h
 ·cases h
mutual
def reo (so:Bool):Val→Val
 |.mk k t ks vs=>.mk k t (if k=5 then (gL so k ks vs.length).map (fun i=>ks.getD i []) else []) ((gL so k ks vs.length).map fun i=>(nF so vs).getD i default)
def nF (so:Bool):List Val→List Val
 |[]=>[]
 |v::vs=>reo so v::nF so vs
end
theorem sq (so:Bool):∀(vs:List Val) (i:Nat) (h:i<vs.length),(nF so vs).getD i default=reo so vs[i]
 |v::vs,0,h=>by unfold nF;rfl
 |v::vs,i+1,h=>by
  unfold nF
  simpa using sq so vs i (by simpa using h)
inductive rtV:Nat→Int→Val→Prop
 |mk {d:Nat}{lv k:Int}{t:List UInt8}{ks:List (List UInt8)}{vs:List Val}:lv≤40→lE k t ks vs.length=0→(∀v,v∈vs→rtV d (lv+1) v)→rtV (d+1) lv (.mk k t ks vs)
theorem yk:∀(d:Nat) (v:Val) (lvl left:Int),0≤left→(eP v lvl left).1=0→41≤lvl+d→rtV d lvl v
 |0,.mk k t ks vs,lvl,left,_,h,hd=>by obtain⟨_,h1,_⟩:=jL h;omega
 |d+1,.mk k t ks vs,lvl,left,hl,h,hd=>by
  obtain⟨h0,h1,h2,h3,h4⟩:=jL h
  refine .mk h1 h2 (fun v hv=>?_)
  have key:∀(l:List Val) (lf:Int),0≤lf→(fm l (lvl+1) lf).1=0→v∈l→∃x,0≤x∧(eP v (lvl+1) x).1=0:=by
   intro l
   induction l with
   |nil=>intro lf _ _ hv;cases hv
   |cons y r ih =>
    intro lf g1 g3 hv
    obtain⟨e1,e2,_⟩:=oT g3
    rcases List.mem_cons.1 hv with rfl | hv
    ·exact⟨lf,g1,e1⟩
    ·exact ih _ (ke y _ lf g1 e1).2 e2 hv
  obtain⟨x,x1,x3⟩:=key vs (left-1) (by omega) h3 hv
  exact yk d v (lvl+1) x x1 x3 (by omega)
theorem jw {k:Int}{t:List UInt8}{ks:List (List UInt8)}{n:Nat}(h:eM k t ks n=true):fT k t=true∧∀s,s∈ks→Chs s:=by
 simp only[eM,Bool.and_eq_true] at h
 refine⟨h.1.1.1,fun s hs=>?_⟩
 have:=h.2
 rw[Bool.not_eq_true',List.any_eq_false] at this
 have:=this s hs
 simp only[Bool.not_eq_true',Bool.not_eq_false] at this
 exact yL.1 this
theorem sY {t:List UInt8}(h:(eR t 0).2=true):∃c,t[0]?=some c∧(c=45∨fQ c=true):=by
 have hg:=mI h
 unfold eR at h
 by_cases g:dgB t (t.length+1) (nm1 t 0)=nm1 t 0
 ·rw[if_pos g] at h;cases h
 ·by_cases q:t[0]?=some 45
  ·exact⟨45,q,.inl rfl⟩
  ·have e:nm1 t 0=0:=by unfold nm1;rw[if_neg q]
   rw[e,dgB] at g
   cases hc:t[0]? with
   |none=>rw[hc] at g;exact (g rfl).elim
   |some c =>
    rw[hc] at g
    simp only at g
    cases hd:fQ c with
    |true=>exact⟨c,rfl,.inr hd⟩
    |false=>rw[hd] at g;exact (g rfl).elim
theorem BQ {c:UInt8}(h:c=45∨fQ c=true):ik c=false∧c.toNat≠110∧c.toNat≠116∧c.toNat≠102∧c.toNat≠34∧¬(c.toNat=91∨c.toNat=123)∧(c.toNat=45∨fQ c=true):=by
 have key:∀n,n<256→(UInt8.ofNat n=45∨fQ (UInt8.ofNat n)=true)→ik (UInt8.ofNat n)=false∧(UInt8.ofNat n).toNat≠110∧(UInt8.ofNat n).toNat≠116∧(UInt8.ofNat n).toNat≠102∧(UInt8.ofNat n).toNat≠34∧¬((UInt8.ofNat n).toNat=91∨(UInt8.ofNat n).toNat=123)∧((UInt8.ofNat n).toNat=45∨fQ (UInt8.ofNat n)=true):=by decide +kernel
 have:=key c.toNat c.toNat_lt
 rw[UInt8.ofNat_toNat] at this
 exact this h
theorem JF (so li:Bool) {k:Int}{t:List UInt8}(hk:k≤3) (ho:lE k t [] 0=0) (lvl:Nat) (lv:Int) (S W rest:List UInt8) (a n:Nat) (hW:∀b,b∈W→ik b=true) (h:S.drop a=W++(prV so li (.mk k t [] []) lvl++rest)) (hn:nnC rest[0]?) (hf:S.length<a+n) :
  fZ S n lv a=some (.ok (.mk k t [] []) (a+W.length+(prV so li (.mk k t [] []) lvl).length)):=by
 obtain⟨o1,_,o3,_⟩:=ko ho
 obtain⟨ht,_⟩:=jw o3
 have hlen:(S.drop a).length=W.length+((prV so li (.mk k t [] []) lvl).length+rest.length):=by rw[h,List.length_append,List.length_append]
 rw[List.length_drop] at hlen
 have hne:1≤(prV so li (.mk k t [] []) lvl).length→∃n',n=n'+1:=fun q=>⟨n-1,by omega⟩
 have hd:S.drop (a+W.length)=prV so li (.mk k t [] []) lvl++rest:=by rw[←List.drop_drop,h,List.drop_left]
 have b0:∀c,(prV so li (.mk k t [] []) lvl++rest)[0]?=some c→ik c=false→blk S a=a+W.length:=fun c hc hb=>j7 hW h (fun c' hc'=>by rw[hc] at hc';cases hc';exact hb)
 have hat:=dz hd 0
 rw[Nat.add_zero] at hat
 have cases4:k=0∨k=1∨k=2∨k=3:=by omega
 rcases cases4 with rfl | rfl | rfl | rfl
 ·have e:prV so li (.mk 0 t [] []) lvl=[110,117,108,108]:=by unfold prV;rfl
  have et:t=[]:=by simpa[fT] using ht
  subst et
  rw[e] at hd hat b0 hne ⊢
  obtain⟨n',rfl⟩:=hne (by decide)
  have hb:=b0 110 rfl (by decide)
  have hat:S[a+W.length]?=some 110:=hat
  have hw:=oX [110,117,108,108] S rest _ hd
  rw[fZ,hb,hat]
  simp only
  rw[if_pos (by decide),gZ,hw]
 ·have e:prV so li (.mk 1 t [] []) lvl=t:=by unfold prV;rfl
  rw[e] at hd hat b0 hne ⊢
  have et:t=[116,114,117,101]∨t=[102,97,108,115,101]:=by simpa[fT] using ht
  rcases et with rfl | rfl
  ·obtain⟨n',rfl⟩:=hne (by decide)
   have hb:=b0 116 rfl (by decide)
   have hat:S[a+W.length]?=some 116:=hat
   have hw:=oX [116,114,117,101] S rest _ hd
   rw[fZ,hb,hat]
   simp only
   rw[if_neg (by decide),if_pos (by decide),gZ,hw]
  ·obtain⟨n',rfl⟩:=hne (by decide)
   have hb:=b0 102 rfl (by decide)
   have hat:S[a+W.length]?=some 102:=hat
   have hw:=oX [102,97,108,115,101] S rest _ hd
   rw[fZ,hb,hat]
   simp only
   rw[if_neg (by decide),if_neg (by decide),if_pos (by decide),gZ,hw]
 ·have e:prV so li (.mk 2 t [] []) lvl=t:=by unfold prV;rfl
  rw[e] at hd hat b0 hne hlen ⊢
  have et:(eR t 0).2=true∧(eR t 0).1=t.length:=by simpa[fT] using ht
  obtain⟨c,hc,hcn⟩:=sY et.1
  have hgt:=mI et.1
  obtain⟨n',rfl⟩:=hne (by omega)
  obtain⟨q0,q1,q2,q3,q4,q5,q6⟩:=BQ hcn
  have hc2:(t++rest)[0]?=some c:=by rw[List.getElem?_append_left (by omega)];exact hc
  have hb:=b0 c hc2 q0
  rw[hc2] at hat
  have hN:=IC hd hn
  rw[et.1,et.2] at hN
  rw[fZ,hb,hat]
  simp only
  rw[if_neg q1,if_neg q2,if_neg q3,if_neg q4,if_neg q5,if_pos q6,hN]
  simp only
  rw[if_pos trivial,hd]
  have:a+W.length+t.length-(a+W.length)=t.length:=by omega
  rw[this,List.take_left]
 ·have e:prV so li (.mk 3 t [] []) lvl=fO t:=by unfold prV;rfl
  rw[e] at hd hat b0 hne hlen ⊢
  have et:Chs t:=yL.1 (by simpa[fT] using ht)
  have hql:(fO t).length=(t.flatMap dG).length+2:=by simp only[fO,List.length_cons,List.length_append,List.length_nil]
  obtain⟨n',rfl⟩:=hne (by omega)
  have hb:=b0 34 rfl (by decide)
  have hat:S[a+W.length]?=some 34:=hat
  have hd2:S.drop (a+W.length+1)=t.flatMap dG++34::rest:=by
   rw[←List.drop_drop,hd]
   simp[fO]
  have hs:=yJ S rest et n' (a+W.length+1) [] hd2 (by omega)
  rw[fZ,hb,hat]
  simp only
  rw[if_neg (by decide),if_neg (by decide),if_neg (by decide),if_pos (by decide),hs,hql]
  simp only[List.nil_append]
  congr 2;omega
end Go.Idl
namespace Go.Idl
theorem Gv {o:Option UInt8}(h:o=some 44∨o=some 10∨o=some 93∨o=some 125∨o=none):nnC o:=by
 intro c hc
 rcases h with h | h | h | h | h<;>rw[h] at hc<;>cases hc<;>decide
def tlB (li:Bool) (lvl:Nat) (k:Int) (ks ts:List (List UInt8)) (p:Nat) (r:List Nat) (E rest:List UInt8):List UInt8:=hH li lvl k ks ts (p+1) r++(E++clB k::rest)
theorem Gw (li:Bool) (lvl l2:Nat) (k:Int) (ks ts:List (List UInt8)) (p:Nat) (r:List Nat) (rest:List UInt8):nnC (tlB li lvl k ks ts p r (dR li l2) rest)[0]?:=by
 apply Gv
 unfold tlB
 cases r with
 |nil =>
  cases li with
  |false =>
   by_cases h:k=5
   ·simp[hH,dR,clB,h]
   ·simp[hH,dR,clB,h]
  |true=>simp[hH,dR]
 |cons j r=>simp[hH]
theorem Ci (o:Bool):clB (kd o)=cl o∧opB (kd o)=(if o then 123 else 91):=by cases o<;>exact⟨rfl,rfl⟩
theorem Cl (o:Bool):ik (cl o)=false∧cl o≠44:=by cases o<;>exact⟨rfl,by decide⟩
theorem sM {S X Y:List UInt8}{a:Nat}(h:S.drop a=X++Y):S.drop (a+X.length)=Y:=by rw[←List.drop_drop,h,List.drop_left]
theorem Ef (so li o:Bool) (lvl:Nat) (lv:Int) (ks:List (List UInt8)) (vs:List Val) (S:List UInt8)
  (hks:o=true→∀s,s∈ks→Chs s)
  (hV:∀(i:Nat) (h:i<vs.length) (W rest:List UInt8) (a n:Nat),(∀b,b∈W→ik b=true)→S.drop a=W++(prV so li vs[i] (lvl+1)++rest)→nnC rest[0]?→3*S.length+1≤3*a+n→a≤S.length→fZ S n (lv+1) a=some (.ok (reo so vs[i]) (a+W.length+(prV so li vs[i] (lvl+1)).length)))
  (W0:List UInt8) (hW0:∀b,b∈W0→ik b=true) (i a n:Nat) (T:List UInt8) (hT:nnC T[0]?) (hi:i<vs.length) (hik:o=true→i<ks.length)
  (hd:S.drop a=W0++(gD li (kd o) ks i++(prV so li vs[i] (lvl+1)++T))) (hf:3*S.length+1≤3*a+n) (ha:a≤S.length) :
  ∃a4,lF S n o a=some (.ok (if o then [ks.getD i []] else []) a4)∧∃a5,a≤a5∧a5≤S.length∧fZ S n (lv+1) a4=some (.ok (reo so vs[i]) a5)∧S.drop a5=T:=by
 have hlen:(S.drop a).length=(W0).length+((gD li (kd o) ks i).length+((prV so li vs[i] (lvl+1)).length+T.length)):=by rw[hd,List.length_append,List.length_append,List.length_append]
 rw[List.length_drop] at hlen
 cases o with
 |false =>
  have hk:gD li (kd false) ks i=[]:=by simp[gD,kd]
  rw[hk,List.nil_append] at hd
  rw[hk] at hlen
  simp only[List.length_nil,Nat.zero_add] at hlen
  have hv:=hV i hi _ T a n hW0 hd hT hf ha
  refine⟨a,by simp[lF],_,by omega,by omega,hv,?_⟩
  rw[Nat.add_assoc,←List.length_append]
  exact sM (by rw[List.append_assoc];exact hd)
 |true =>
  have hkl:=hik rfl
  have hx:ks.getD i []=ks[i]:=by simp[List.getD_eq_getElem?_getD,hkl]
  have hk:gD li (kd true) ks i=fO ks[i]++(58::if li then [32] else []):=by rw[←hx];simp[gD,kd]
  rw[hk] at hd hlen
  rw[hx]
  have hc:=hks rfl ks[i] (List.getElem_mem hkl)
  generalize ks[i]=key at *
  have hsp:∀b,b∈(if li then [32] else ([]:List UInt8))→ik b=true:=by
   intro b hb
   split at hb
   ·simp only[List.mem_cons,List.not_mem_nil,or_false] at hb;subst hb;rfl
   ·cases hb
  generalize (if li then [32] else ([]:List UInt8))=sp at *
  have hd1:S.drop (a+(W0).length)=34::(key.flatMap dG++34::(58::(sp++(prV so li vs[i] (lvl+1)++T)))):=by
   rw[sM hd];simp[fO]
  have hd1':S.drop a=W0++(34::(key.flatMap dG++34::(58::(sp++(prV so li vs[i] (lvl+1)++T))))):=by
   rw[hd];simp[fO]
  have hb1:=j7 hW0 hd1' (fun c hc=>by cases hc;decide)
  have h34:S[a+(W0).length]?=some 34:=by
   have:=dz (x:=[]) hd1 0
   rwa [Nat.add_zero] at this
  have hd2:S.drop (a+(W0).length+1)=key.flatMap dG++34::(58::(sp++(prV so li vs[i] (lvl+1)++T))):=by
   rw[←List.drop_drop,hd1];rfl
  have hs:=yJ S _ hc n _ [] hd2 (by omega)
  have hd3:S.drop (a+(W0).length+1+(key.flatMap dG).length+1)=58::(sp++(prV so li vs[i] (lvl+1)++T)):=by
   rw[←List.drop_drop,sM hd2];rfl
  generalize ha2:a+(W0).length+1+(key.flatMap dG).length+1=a2 at *
  have hb2:blk S a2=a2:=by
   have:=j7 (W:=[]) (fun _ h=>by cases h) hd3 (fun c hc=>by cases hc;decide)
   rwa [List.length_nil,Nat.add_zero] at this
  have h58:S[a2]?=some 58:=by
   have:=dz (x:=[]) hd3 0
   rwa [Nat.add_zero] at this
  have hd4:S.drop (a2+1)=sp++(prV so li vs[i] (lvl+1)++T):=by rw[←List.drop_drop,hd3];rfl
  have hl4:=bL h58
  have hv:=hV i hi sp T (a2+1) n hsp hd4 hT (by omega) (by omega)
  have hlen4:(S.drop (a2+1)).length=sp.length+((prV so li vs[i] (lvl+1)).length+T.length):=by rw[hd4,List.length_append,List.length_append]
  rw[List.length_drop] at hlen4
  refine⟨a2+1,?_,_,by omega,by omega,hv,?_⟩
  ·unfold lF
   rw[hb1,if_pos rfl,if_pos h34,hs]
   simp only[hb2,h58,if_true,List.nil_append]
  ·rw[Nat.add_assoc (a2+1),←List.length_append]
   exact sM (by rw[List.append_assoc];exact hd4)
theorem ET (so li o:Bool) (lvl:Nat) (lv:Int) (ks:List (List UInt8)) (vs:List Val) (S:List UInt8)
  (hks:o=true→∀s,s∈ks→Chs s)
  (hV:∀(i:Nat) (h:i<vs.length) (W rest:List UInt8) (a n:Nat),(∀b,b∈W→ik b=true)→S.drop a=W++(prV so li vs[i] (lvl+1)++rest)→nnC rest[0]?→3*S.length+1≤3*a+n→a≤S.length→fZ S n (lv+1) a=some (.ok (reo so vs[i]) (a+W.length+(prV so li vs[i] (lvl+1)).length)))
  (rest:List UInt8) :
  ∀(r:List Nat) (i p a n:Nat) (ks0:List (List UInt8)) (vs0:List Val) (W0:List UInt8),(∀b,b∈W0→ik b=true)→(∀j,j∈i::r→j<vs.length∧(o=true→j<ks.length)) →
   S.drop a=W0++(gD li (kd o) ks i++((prL so li vs (lvl+1)).getD i []++tlB li (lvl+1) (kd o) ks (prL so li vs (lvl+1)) p r (dR li lvl) rest))→3*S.length+2≤3*a+n→a≤S.length →
   gj S n o lv a ks0 vs0=some (.ok (.mk (kd o) [] (ks0++if o then (i::r).map (fun i=>ks.getD i []) else []) (vs0++(i::r).map fun i=>(nF so vs).getD i default)) (S.length-rest.length)):=by
 have fin:∀(i p a n:Nat) (r:List Nat) (ks0:List (List UInt8)) (vs0:List Val) (W0:List UInt8),(∀b,b∈W0→ik b=true)→i<vs.length→(o=true→i<ks.length) →
   S.drop a=W0++(gD li (kd o) ks i++((prL so li vs (lvl+1)).getD i []++tlB li (lvl+1) (kd o) ks (prL so li vs (lvl+1)) p r (dR li lvl) rest))→3*S.length+2≤3*a+n→a≤S.length →
   ∃n' a5,n=n'+1∧a≤a5∧a5≤S.length∧S.drop a5=tlB li (lvl+1) (kd o) ks (prL so li vs (lvl+1)) p r (dR li lvl) rest ∧
    gj S n o lv a ks0 vs0=(if S[blk S a5]?=some (cl o) then some (.ok (.mk (kd o) [] (ks0++if o then [ks.getD i []] else []) (vs0++[(nF so vs).getD i default])) (blk S a5+1))
     else if S[blk S a5]?=some 44 then gj S n' o lv (blk S a5+1) (ks0++if o then [ks.getD i []] else []) (vs0++[(nF so vs).getD i default]) else some (.err (blk S a5) 19)):=by
  intro i p a n r ks0 vs0 W0 hW0 hi hik hd hf ha
  obtain⟨n',rfl⟩:∃n',n=n'+1:=⟨n-1,by omega⟩
  rw[mh so li vs (lvl+1) i hi] at hd
  obtain⟨a4,e1,a5,g1,g2,e2,e3⟩:=Ef so li o lvl lv ks vs S hks hV W0 hW0 i a n' _ (Gw li (lvl+1) lvl (kd o) ks _ p r rest) hi hik hd (by omega) ha
  refine⟨n',a5,rfl,g1,g2,e3,?_⟩
  rw[gj,e1]
  simp only[e2,sq so vs i hi]
 intro r
 induction r with
 |nil =>
  intro i p a n ks0 vs0 W0 hW0 hj hd hf ha
  obtain⟨hi,hik⟩:=hj i List.mem_cons_self
  obtain⟨n',a5,rfl,g1,g2,e3,e4⟩:=fin i p a n [] ks0 vs0 W0 hW0 hi hik hd hf ha
  have e3':S.drop a5=dR li lvl++(cl o::rest):=by rw[e3,tlB,hH,List.nil_append,(Ci o).1]
  have hb:=j7 (xy li lvl) e3' (fun c hc=>by cases hc;exact (Cl o).1)
  have hcl:S[a5+(dR li lvl).length]?=some (cl o):=by
   have:=dz (x:=dR li lvl) e3' (dR li lvl).length
   rw[List.getElem?_append_right (Nat.le_refl _),Nat.sub_self] at this
   exact this
  have hlt:=bL hcl
  have hl:(S.drop a5).length=(dR li lvl).length+(rest.length+1):=by rw[e3',List.length_append,List.length_cons]
  rw[List.length_drop] at hl
  rw[e4,hb,if_pos hcl]
  have hpos:a5+(dR li lvl).length+1=S.length-rest.length:=by omega
  rw[hpos]
  cases o<;>rfl
 |cons j r ih =>
  intro i p a n ks0 vs0 W0 hW0 hj hd hf ha
  obtain⟨hi,hik⟩:=hj i List.mem_cons_self
  obtain⟨n',a5,rfl,g1,g2,e3,e4⟩:=fin i p a n (j::r) ks0 vs0 W0 hW0 hi hik hd hf ha
  have e3':S.drop a5=44::(dR li (lvl+1)++(gD li (kd o) ks j++((prL so li vs (lvl+1)).getD j []++tlB li (lvl+1) (kd o) ks (prL so li vs (lvl+1)) (p+1) r (dR li lvl) rest))):=by
   rw[e3]
   simp only[tlB]
   rw[hH,if_pos (Nat.succ_pos p)]
   simp only[List.append_assoc,List.cons_append,List.nil_append]
  have hb:blk S a5=a5:=by
   have:=j7 (W:=[]) (fun _ h=>by cases h) e3' (fun c hc=>by cases hc;decide)
   rwa [List.length_nil,Nat.add_zero] at this
  have h44:S[a5]?=some 44:=by
   have:=dz (x:=[]) e3' 0
   rwa [Nat.add_zero] at this
  have hlt:=bL h44
  have hd5:S.drop (a5+1)=dR li (lvl+1)++(gD li (kd o) ks j++((prL so li vs (lvl+1)).getD j []++tlB li (lvl+1) (kd o) ks (prL so li vs (lvl+1)) (p+1) r (dR li lvl) rest)):=by
   rw[←List.drop_drop,e3'];rfl
  have:=ih j (p+1) (a5+1) n' (ks0++if o then [ks.getD i []] else []) (vs0++[(nF so vs).getD i default]) (dR li (lvl+1)) (xy li _) (fun x hx=>hj x (List.mem_cons_of_mem _ hx)) hd5 (by omega) (by omega)
  rw[e4,hb,h44,if_neg (fun q=>(Cl o).2 (Option.some.inj q).symm),if_pos rfl,this]
  cases o<;>simp
theorem Jc {c:UInt8}(h:c=45∨fQ c=true):c≠93∧c≠125:=by
 have key:∀n,n<256→(UInt8.ofNat n=45∨fQ (UInt8.ofNat n)=true)→UInt8.ofNat n≠93∧UInt8.ofNat n≠125:=by decide +kernel
 have:=key c.toNat c.toNat_lt
 rw[UInt8.ofNat_toNat] at this
 exact this h
theorem AL (so li:Bool) {d:Nat}{lv:Int}{v:Val}(h:rtV d lv v) (lvl:Nat):∃c X,prV so li v lvl=c::X∧ik c=false∧c≠93∧c≠125:=by
 cases h with
 | @mk _ _ k t ks vs hlv ho hall =>
  obtain⟨o1,o2,o3,_⟩:=ko ho
  obtain⟨ht,_⟩:=jw o3
  have h6:k=0∨k=1∨k=2∨k=3∨k=4∨k=5:=by omega
  rcases h6 with rfl | rfl | rfl | rfl | rfl | rfl
  ·exact⟨110,[117,108,108],by unfold prV;rfl,by decide,by decide,by decide⟩
  ·have et:t=[116,114,117,101]∨t=[102,97,108,115,101]:=by simpa[fT] using ht
   rcases et with rfl | rfl
   ·exact⟨116,[114,117,101],by unfold prV;rfl,by decide,by decide,by decide⟩
   ·exact⟨102,[97,108,115,101],by unfold prV;rfl,by decide,by decide,by decide⟩
  ·have et:(eR t 0).2=true∧(eR t 0).1=t.length:=by simpa[fT] using ht
   obtain⟨c,hc,hcn⟩:=sY et.1
   cases t with
   |nil=>cases hc
   |cons x X =>
    cases hc
    obtain⟨q0,_⟩:=BQ hcn
    obtain⟨q1,q2⟩:=Jc hcn
    exact⟨c,X,by unfold prV;rfl,q0,q1,q2⟩
  ·exact⟨34,t.flatMap dG++[34],by unfold prV;rfl,by decide,by decide,by decide⟩
  ·exact⟨91,_,by unfold prV;rfl,by decide,by decide,by decide⟩
  ·exact⟨123,_,by unfold prV;rfl,by decide,by decide,by decide⟩
theorem Cy (so li:Bool) (S:List UInt8):∀(d:Nat) (v:Val) (lvl:Nat) (lv:Int) (W rest:List UInt8) (a n:Nat),rtV d lv v→(∀b,b∈W→ik b=true)→S.drop a=W++(prV so li v lvl++rest)→nnC rest[0]?→3*S.length+1≤3*a+n→a≤S.length →
  fZ S n lv a=some (.ok (reo so v) (a+W.length+(prV so li v lvl).length))
 |0,v,lvl,lv,W,rest,a,n,hc,_,_,_,_,_=>by cases hc
 |d+1,.mk k t ks vs,lvl,lv,W,rest,a,n,hc,hW,hd,hn,hf,ha=>by
  cases hc with
  |mk hlv ho hall =>
   obtain⟨o1,o2,o3,_,_,o5,o6,o7⟩:=ko ho
   obtain⟨ht,hks⟩:=jw o3
   by_cases hk:k≤3
   ·have e1:ks=[]:=o6 (by omega)
    have e2:vs=[]:=List.length_eq_zero_iff.1 (o7 (by omega) (by omega))
    subst e1 e2
    have:=JF so li hk ho lvl lv S W rest a n hW hd hn (by omega)
    rw[this]
    have hr:reo so (.mk k t [] [])=.mk k t [] []:=by
     unfold reo
     rw[if_neg (by omega)]
     have:gL so k [] 0=[]:=by unfold gL;split<;>rfl
     rw[List.length_nil,this];rfl
    rw[hr]
   ·have hk45:k=4∨k=5:=by omega
    obtain⟨o,rfl⟩:∃o,k=kd o:=by
     rcases hk45 with rfl | rfl
     ·exact⟨false,rfl⟩
     ·exact⟨true,rfl⟩
    have et:t=[]:=by
     cases o<;>simpa[fT,kd] using ht
    subst et
    have hp:prV so li (.mk (kd o) [] ks vs) lvl=opB (kd o)::(hH li (lvl+1) (kd o) ks (prL so li vs (lvl+1)) 0 (gL so (kd o) ks vs.length)++((if vs=[] then [] else dR li lvl)++[clB (kd o)])):=by
     unfold prV
     rw[if_neg (by omega),if_neg (by omega),if_neg (by omega)]
    have hlen:(S.drop a).length=W.length+((prV so li (.mk (kd o) [] ks vs) lvl).length+rest.length):=by rw[hd,List.length_append,List.length_append]
    rw[List.length_drop] at hlen
    have hp1:2≤(prV so li (.mk (kd o) [] ks vs) lvl).length:=by rw[hp];simp only[List.length_cons,List.length_append,List.length_nil];omega
    obtain⟨n1,rfl⟩:∃m,n=m+1:=⟨n-1,by omega⟩
    have hpos:a+W.length+(prV so li (.mk (kd o) [] ks vs) lvl).length=S.length-rest.length:=by omega
    rw[hpos]
    rw[hp] at hd hp1
    have hop:opB (kd o)=if o then 123 else 91:=(Ci o).2
    have hb:=j7 hW hd (fun c hc=>by
     simp only[List.cons_append,List.getElem?_cons_zero,Option.some.injEq] at hc
     subst hc;rw[hop];cases o<;>rfl)
    have hd1:=sM hd
    have hat:S[a+W.length]?=some (opB (kd o)):=by
     have:=dz (x:=[]) hd1 0
     rwa [Nat.add_zero] at this
    have hd2:S.drop (a+W.length+1)=hH li (lvl+1) (kd o) ks (prL so li vs (lvl+1)) 0 (gL so (kd o) ks vs.length)++((if vs=[] then [] else dR li lvl)++(clB (kd o)::rest)):=by
     rw[←List.drop_drop,hd1];simp
    have hlt:=bL hat
    have hval:fZ S (n1+1) lv a=fl S n1 o lv (a+W.length+1):=by
     rw[fZ,hb,hat,hop]
     cases o with
     |false=>simp[show ¬lv>40 by omega]
     |true=>simp[show ¬lv>40 by omega]
    obtain⟨n2,rfl⟩:∃m,n1=m+1:=⟨n1-1,by omega⟩
    rw[hval,fl]
    cases hol:gL so (kd o) ks vs.length with
    |nil =>
     have e0:vs=[]:=by
      have:=rB so (kd o) ks vs.length
      rw[hol] at this
      exact List.length_eq_zero_iff.1 this.symm
     rw[hol,hH,e0,if_pos rfl,List.nil_append,List.nil_append,(Ci o).1] at hd2
     have hb2:blk S (a+W.length+1)=a+W.length+1:=by
      have:=j7 (W:=[]) (fun _ h=>by cases h) hd2 (fun c hc=>by cases hc;exact (Cl o).1)
      rwa [List.length_nil,Nat.add_zero] at this
     have hcl:S[a+W.length+1]?=some (cl o):=by
      have:=dz (x:=[]) hd2 0
      rwa [Nat.add_zero] at this
     have hlt2:=bL hcl
     have hl2:(S.drop (a+W.length+1)).length=rest.length+1:=by rw[hd2,List.length_cons]
     rw[List.length_drop] at hl2
     rw[hb2,if_pos hcl]
     have hr:reo so (.mk (kd o) [] ks vs)=.mk (kd o) [] [] []:=by
      unfold reo
      rw[hol];simp
     rw[hr]
     congr 2;omega
    |cons i r =>
     have hne:vs≠[]:=by
      rintro rfl
      have:=rB so (kd o) ks 0
      rw[List.length_nil] at hol
      rw[hol] at this;cases this
     rw[hol,hH,if_neg (by omega),if_neg hne,List.nil_append] at hd2
     have hmem:∀j,j∈i::r→j<vs.length∧(o=true→j<ks.length):=by
      intro j hj
      rw[←hol,qK] at hj
      refine⟨hj,fun q=>?_⟩
      subst q
      rw[(o5 rfl).1];exact hj
     have hi:=(hmem i List.mem_cons_self).1
     have hTs:(prL so li vs (lvl+1)).getD i []=prV so li vs[i] (lvl+1):=mh so li vs (lvl+1) i hi
     have hck:=hall vs[i] (List.getElem_mem hi)
     have hd3:S.drop (a+W.length+1)=dR li (lvl+1)++(gD li (kd o) ks i++((prL so li vs (lvl+1)).getD i []++tlB li (lvl+1) (kd o) ks (prL so li vs (lvl+1)) 0 r (dR li lvl) rest)):=by
      rw[hd2];simp only[tlB,List.append_assoc]
     have hstart:∃c X,gD li (kd o) ks i++((prL so li vs (lvl+1)).getD i []++tlB li (lvl+1) (kd o) ks (prL so li vs (lvl+1)) 0 r (dR li lvl) rest)=c::X∧ik c=false∧c≠cl o:=by
      cases o with
      |true=>exact⟨34,_,by simp only[gD,kd,if_true,fO];rfl,by decide,by decide⟩
      |false =>
       obtain⟨c,X,e,c1,c2,_⟩:=AL so li hck (lvl+1)
       refine⟨c,X++tlB li (lvl+1) (kd false) ks (prL so li vs (lvl+1)) 0 r (dR li lvl) rest,?_,c1,c2⟩
       rw[hTs,e];simp[gD,kd]
     obtain⟨c,X,hs1,hs2,hs3⟩:=hstart
     have hd4:=sM hd3
     have hb2:=j7 (xy li _) hd3 (fun c' hc=>by rw[hs1] at hc;cases hc;exact hs2)
     have hcc:S[a+W.length+1+(dR li (lvl+1)).length]?=some c:=by
      have:=dz (x:=[]) (hd4.trans hs1) 0
      rwa [Nat.add_zero] at this
     have hlt3:=bL hcc
     rw[hb2,hcc,if_neg (fun q=>hs3 (Option.some.inj q))]
     have hL:=ET so li o lvl lv ks vs S (fun _=>hks)
      (fun j hj W' rest' a' n' hW' hd' hn' hf' ha'=>Cy so li S d vs[j] (lvl+1) (lv+1) W' rest' a' n' (hall _ (List.getElem_mem hj)) hW' hd' hn' hf' ha')
      rest r i 0 (a+W.length+1+(dR li (lvl+1)).length) n2 [] [] [] (fun _ h=>by cases h) hmem (by rw[List.nil_append];exact hd4) (by omega) (by omega)
     rw[hL]
     have hr:reo so (.mk (kd o) [] ks vs)=.mk (kd o) [] ([]++if o=true then (i::r).map (fun i=>ks.getD i []) else []) ([]++(i::r).map fun i=>(nF so vs).getD i default):=by
      unfold reo
      rw[hol]
      cases o<;>simp[kd]
     rw[hr]
end Go.Idl
namespace Go.Idl
theorem zA (so:Bool):∀vs:List Val,(∀v,v∈vs→reo so v=v)→nF so vs=vs
 |[],_=>by unfold nF;rfl
 |v::vs,h=>by
  unfold nF
  rw[h v List.mem_cons_self,zA so vs (fun x hx=>h x (List.mem_cons_of_mem _ hx))]
theorem oa {α:Type}(l:List α) (d:α):((List.range l.length).map fun i=>l.getD i d)=l:=by
 apply List.ext_getElem
 ·simp
 ·intro i h1 h2
  simp[List.getD_eq_getElem?_getD,h2]
theorem Cx:∀(d:Nat) (v:Val) (lv:Int),rtV d lv v→reo false v=v
 |0,v,lv,h=>by cases h
 |d+1,.mk k t ks vs,lv,h=>by
  cases h with
  |mk hlv ho hall =>
   obtain⟨_,_,_,_,_,o5,o6,_⟩:=ko ho
   have hr:=zA false vs (fun v hv=>Cx d v (lv+1) (hall v hv))
   have ho:gL false k ks vs.length=List.range vs.length:=by simp[gL]
   unfold reo
   rw[ho,hr,oa]
   by_cases g:k=5
   ·rw[if_pos g,← (o5 g).1,oa]
   ·rw[if_neg g,o6 g]
theorem np (s:List UInt8):∀(k a:Nat) (n x:Int) (b:Nat),gP s k a n=.ok x b→b=a+k
 |0,a,n,x,b,h=>by cases h;rfl
 |k+1,a,n,x,b,h=>by
  unfold gP at h
  cases hq:s[a]? with
  |none=>rw[hq] at h;cases h
  |some c =>
   rw[hq] at h
   simp only at h
   split at h
   ·cases h
   ·have:=np s k _ _ _ _ h;omega
theorem AP {s:List UInt8}{a:Nat}{x:List UInt8}{a':Nat}(h:mT s a=.ok x a'):x.length+a≤a':=by
 have hl:=pU h
 rw[mT.eq_1] at h
 split at h
 ·obtain⟨rfl,rfl⟩:=Rd.ok.inj h;simp;omega
 ·split at h
  ·split at h
   ·exact (a6 h).elim
   ·rename_i n a1 hX
    have:=np _ _ _ _ _ _ hX
    split at h
    ·obtain⟨_,rfl⟩:=Rd.ok.inj h;omega
    ·split at h
     ·exact (a6 h).elim
     ·split at h
      ·exact (a6 h).elim
      ·rename_i k a2 hY
       have:=np _ _ _ _ _ _ hY
       split at h
       ·exact (a6 h).elim
       ·obtain⟨_,rfl⟩:=Rd.ok.inj h;omega
  ·exact (a6 h).elim
theorem kA (s:List UInt8):∀(n a:Nat) (acc t:List UInt8) (a':Nat),iv s n a acc=some (.ok t a')→(t.flatMap dG).length+6*a+6≤(acc.flatMap dG).length+6*a'
 |0,a,acc,t,a',h=>by cases h
 |n+1,a,acc,t,a',h=>by
  unfold iv at h
  cases hq:s[a]? with
  |none=>rw[hq] at h;simp only[Option.some.injEq] at h;exact (a6 h).elim
  |some c =>
   rw[hq] at h
   simp only at h
   split at h
   ·simp only[Option.some.injEq] at h;exact (a6 h).elim
   ·split at h
    ·simp only[Option.some.injEq] at h
     obtain⟨rfl,rfl⟩:=Rd.ok.inj h;omega
    ·split at h
     ·split at h
      ·simp only[Option.some.injEq] at h;exact (a6 h).elim
      ·rename_i x b hE
       have h1:=AP hE
       have h2:=kA s n _ _ _ _ h
       have h3:=kt x
       rw[List.flatMap_append,List.length_append] at h2
       omega
     ·split at h
      ·have h2:=kA s n _ _ _ _ h
       have h3:=kt ((s.drop a).take (ak (s.drop a)).1)
       have h4:((s.drop a).take (ak (s.drop a)).1).length≤(ak (s.drop a)).1:=by rw[List.length_take];omega
       rw[List.flatMap_append,List.length_append] at h2
       omega
      ·simp only[Option.some.injEq] at h;exact (a6 h).elim
def oI (ks:List (List UInt8)):Nat:=(ks.map fun k=>(fO k).length+1).sum
def vG (lvl:Nat) (vs:List Val):Nat:=((prL false false vs lvl).map fun t=>t.length+1).sum
theorem ze (so li:Bool) (v:Val) (lvl:Nat):∀vs:List Val,prL so li (vs++[v]) lvl=prL so li vs lvl++[prV so li v lvl]
 |[]=>by simp only[List.nil_append];unfold prL;unfold prL;rfl
 |x::vs=>by rw[List.cons_append];unfold prL;rw[ze so li v lvl vs];rfl
theorem vC (lvl:Nat) (vs:List Val) (v:Val):vG lvl (vs++[v])=vG lvl vs+((prV false false v lvl).length+1):=by
 unfold vG;rw[ze];simp
theorem wQ (ks k:List (List UInt8)):oI (ks++k)=oI ks+oI k:=by simp[oI]
theorem y6 (lvl:Nat) (k:Int) (ks ts:List (List UInt8)) (hk:k=5→True):∀(l:List Nat) (n:Nat),(hH false lvl k ks ts n l).length≤(l.map fun i=>if k=5 then (fO (ks.getD i [])).length+1 else 0).sum+(l.map fun i=>(ts.getD i []).length+1).sum
 |[],n=>by simp[hH]
 |i::r,n=>by
  have h1:=y6 lvl k ks ts hk r (n+1)
  have h4:(if 0<n then [44] else ([]:List UInt8)).length≤1:=by split<;>simp
  have h3:(gD false k ks i).length=if k=5 then (fO (ks.getD i [])).length+1 else 0:=by
   unfold gD;split<;>simp
  unfold hH
  simp only[List.length_append,List.map_cons,List.sum_cons,h3,dR,Bool.false_eq_true,if_false,List.length_nil]
  omega
theorem zj (o:Bool) (ks:List (List UInt8)) (vs:List Val) (lvl:Nat) (h1:o=true→ks.length=vs.length):(prV false false (.mk (kd o) [] ks vs) lvl).length≤2+oI ks+vG (lvl+1) vs:=by
 have hp:prV false false (.mk (kd o) [] ks vs) lvl=opB (kd o)::(hH false (lvl+1) (kd o) ks (prL false false vs (lvl+1)) 0 (gL false (kd o) ks vs.length)++((if vs=[] then [] else dR false lvl)++[clB (kd o)])):=by
  unfold prV
  rw[if_neg (by cases o<;>decide),if_neg (by cases o<;>decide),if_neg (by cases o<;>decide)]
 have ho:gL false (kd o) ks vs.length=List.range vs.length:=by simp[gL]
 have hs:=y6 (lvl+1) (kd o) ks (prL false false vs (lvl+1)) (fun _=>trivial) (List.range vs.length) 0
 have h2:=lM (prL false false vs (lvl+1)) (fun t=>t.length+1)
 rw[tD] at h2
 rw[h2] at hs
 have hl:(if vs=[] then [] else dR false lvl).length=0:=by split<;>simp[dR]
 rw[hp,ho]
 simp only[List.length_cons,List.length_append,hl,List.length_nil]
 have hk:((List.range vs.length).map fun i=>if kd o=5 then (fO (ks.getD i [])).length+1 else 0).sum≤oI ks:=by
  cases o with
  |false =>
   have:((List.range vs.length).map fun i=>if kd false=5 then (fO (ks.getD i [])).length+1 else 0).sum=0:=by
    have z:∀l:List Nat,(l.map fun _=>0).sum=0:=by
     intro l
     induction l with
     |nil=>rfl
     |cons a r ih=>simp[ih]
    simp only[show ¬kd false=5 from by decide,if_false]
    exact z _
   omega
  |true =>
   have e:=lM ks (fun k=>(fO k).length+1)
   rw[h1 rfl] at e
   have e2:(fun i=>if kd true=5 then (fO (ks.getD i [])).length+1 else 0)=fun i=>(fO (ks.getD i [])).length+1:=by
    funext i;simp[kd]
   rw[e2,e]
   exact Nat.le_refl _
 unfold vG
 omega
theorem zP {s:List UInt8}{n:Nat}{o:Bool}{a:Nat}{k:List (List UInt8)}{a':Nat}(h:lF s n o a=some (.ok k a')) (ha:a≤s.length):oI k+6*a≤6*a'∧(k.length=if o then 1 else 0):=by
 unfold lF at h
 have hb:=dO ha
 split at h
 ·rename_i ho
  split at h
  ·split at h
   ·cases h
   ·simp only[Option.some.injEq] at h;exact (a6 h).elim
   ·rename_i t a2 hs
    have h1:=kA s n _ _ _ _ hs
    split at h
    ·rename_i g
     simp only[Option.some.injEq] at h
     obtain⟨rfl,rfl⟩:=Rd.ok.inj h
     have h34:blk s a+1≤s.length:=bL (by assumption)
     have ha2:=oM s _ _ _ _ _ hs
     have hb2:=dO ha2
     simp only[List.flatMap_nil,List.length_nil] at h1
     refine⟨?_,by simp[ho]⟩
     simp only[oI,List.map_cons,List.map_nil,List.sum_cons,List.sum_nil,fO,List.length_cons,List.length_append,List.length_nil]
     omega
    ·simp only[Option.some.injEq] at h;exact (a6 h).elim
  ·simp only[Option.some.injEq] at h;exact (a6 h).elim
 ·rename_i ho
  simp only[Option.some.injEq] at h
  obtain⟨rfl,rfl⟩:=Rd.ok.inj h
  exact⟨by simp[oI],by simp[ho]⟩
theorem zV (s:List UInt8):∀(n:Nat),(∀lvl a v a',fZ s n lvl a=some (.ok v a')→a≤s.length→∀l,(prV false false v l).length+6*a≤6*a')∧(∀o lvl a v a',fl s n o lvl a=some (.ok v a')→a≤s.length→∀l,(prV false false v l).length+6*a≤6*a'+2)∧(∀o lvl a ks vs v a',gj s n o lvl a ks vs=some (.ok v a')→a≤s.length→(o=true→ks.length=vs.length)→(o=false→ks=[])→∀l,(prV false false v l).length+6*a≤6*a'+2+oI ks+vG (l+1) vs):=by
 intro n
 induction n with
 |zero=>refine⟨fun lvl a v a' h _=>?_,fun o lvl a v a' h _=>?_,fun o lvl a ks vs v a' h _=>?_⟩<;>simp[fZ,fl,gj] at h
 |succ n ih =>
  obtain⟨i1,i2,i3⟩:=ih
  refine⟨fun lvl a v a' h ha l=>?_,fun o lvl a v a' h ha l=>?_,fun o lvl a ks vs v a' h ha hkl hk0 l=>?_⟩
  ·have hb:=dO ha
   unfold fZ at h
   cases hq:s[blk s a]? with
   |none=>rw[hq] at h;simp only[Option.some.injEq] at h;exact (a6 h).elim
   |some c =>
    have hlt:=bL hq
    rw[hq] at h
    simp only at h
    split at h
    ·simp only[Option.some.injEq] at h
     have h1:=kQ h
     have h2:v=.mk 0 [] [] []:=by
      unfold gZ at h
      split at h
      ·exact (Rd.ok.inj h).1.symm
      ·exact (a6 h).elim
     subst h2
     have:(prV false false (.mk 0 [] [] []) l).length=4:=by unfold prV;rfl
     simp only[List.length_cons,List.length_nil] at h1
     omega
    ·split at h
     ·simp only[Option.some.injEq] at h
      have h1:=kQ h
      have h2:v=.mk 1 [116,114,117,101] [] []:=by
       unfold gZ at h
       split at h
       ·exact (Rd.ok.inj h).1.symm
       ·exact (a6 h).elim
      subst h2
      have:(prV false false (.mk 1 [116,114,117,101] [] []) l).length=4:=by unfold prV;rfl
      simp only[List.length_cons,List.length_nil] at h1
      omega
     ·split at h
      ·simp only[Option.some.injEq] at h
       have h1:=kQ h
       have h2:v=.mk 1 [102,97,108,115,101] [] []:=by
        unfold gZ at h
        split at h
        ·exact (Rd.ok.inj h).1.symm
        ·exact (a6 h).elim
       subst h2
       have:(prV false false (.mk 1 [102,97,108,115,101] [] []) l).length=5:=by unfold prV;rfl
       simp only[List.length_cons,List.length_nil] at h1
       omega
      ·split at h
       ·split at h
        ·cases h
        ·simp only[Option.some.injEq] at h;exact (a6 h).elim
        ·rename_i t b hs
         simp only[Option.some.injEq] at h
         obtain⟨rfl,rfl⟩:=Rd.ok.inj h
         have h1:=kA s n _ _ _ _ hs
         have:(prV false false (.mk 3 t [] []) l).length=(t.flatMap dG).length+2:=by
          have e:prV false false (.mk 3 t [] []) l=fO t:=by unfold prV;rfl
          rw[e];simp only[fO,List.length_cons,List.length_append,List.length_nil]
         simp only[List.flatMap_nil,List.length_nil] at h1
         omega
       ·split at h
        ·split at h
         ·simp only[Option.some.injEq] at h;exact (a6 h).elim
         ·have:=i2 _ _ _ _ _ h (by omega) l
          omega
        ·split at h
         ·split at h
          ·rename_i hg
           simp only[Option.some.injEq] at h
           obtain⟨rfl,rfl⟩:=Rd.ok.inj h
           have h1:=mI hg
           have e:prV false false (.mk 2 ((s.drop (blk s a)).take ((eR s (blk s a)).1-blk s a)) [] []) l=(s.drop (blk s a)).take ((eR s (blk s a)).1-blk s a):=by unfold prV;rfl
           rw[e,List.length_take]
           omega
          ·simp only[Option.some.injEq] at h;exact (a6 h).elim
         ·simp only[Option.some.injEq] at h;exact (a6 h).elim
  ·have hb:=dO ha
   unfold fl at h
   split at h
   ·rename_i hg
    have:=bL hg
    simp only[Option.some.injEq] at h
    obtain⟨rfl,rfl⟩:=Rd.ok.inj h
    have:=zj o [] [] l (fun _=>rfl)
    simp only[oI,vG,List.map_nil,List.sum_nil] at this
    unfold prL at this
    simp only[List.map_nil,List.sum_nil] at this
    omega
   ·have:=i3 _ _ _ _ _ _ _ h hb.2 (fun _=>rfl) (fun _=>rfl) l
    simp only[oI,vG,List.map_nil,List.sum_nil] at this
    unfold prL at this
    simp only[List.map_nil,List.sum_nil] at this
    omega
  ·unfold gj at h
   split at h
   ·cases h
   ·simp only[Option.some.injEq] at h;exact (a6 h).elim
   ·rename_i k a4 hk
    have hka:=mK hk ha
    obtain⟨hc,hkl1⟩:=zP hk ha
    split at h
    ·cases h
    ·simp only[Option.some.injEq] at h;exact (a6 h).elim
    ·rename_i v2 a5 hv
     have hva:=(kb s n).1 _ _ _ _ hv hka.2
     have hvc:=i1 _ _ _ _ hv hka.2 (l+1)
     have hb:=dO hva.2
     have e1:o=true→(ks++k).length=(vs++[v2]).length:=by
      intro ho
      rw[List.length_append,List.length_append,hkl ho,hkl1,ho];rfl
     have e0:o=false→ks++k=[]:=by
      intro ho
      rw[hk0 ho,List.nil_append]
      exact List.length_eq_zero_iff.1 (by rw[hkl1,ho];rfl)
     split at h
     ·rename_i hg
      have:=bL hg
      simp only[Option.some.injEq] at h
      obtain⟨rfl,rfl⟩:=Rd.ok.inj h
      have:=zj o (ks++k) (vs++[v2]) l e1
      rw[wQ,vC] at this
      omega
     ·split at h
      ·rename_i hg
       have:=i3 _ _ _ _ _ _ _ h (bL hg) e1 e0 l
       rw[wQ,vC] at this
       omega
      ·simp only[Option.some.injEq] at h;exact (a6 h).elim
end Go.Idl
namespace Go.Idl
attribute [local go_sem] cn cu gI gS bn bU cC cU cV c6 dd c7 cf bG ct bC bF da cv bB dh bD aN aX aO aM aA dm dc cm cg dj cZ bY eC dk bZ dg cY c9 de cx cd ck bA b8 c8 bw aY bE bu cr aL aB aP ay cP cO bo aZ bp bP bq bR bt bQ List.flatMap_cons List.flatMap_nil
theorem wW:fk (.mk 0 [] [] [])=0:=by decide +kernel
theorem wI (s:List UInt8) (n:Nat) (r:Rd Val) (h:fZ s n 1 0=some r) (he:(fo s r).2.2=0):fk (fo s r).1=0∧(prV false false (fo s r).1 0).length≤6*s.length+4:=by
 cases r with
 |err b e =>
  refine⟨wW,?_⟩
  have:(prV false false (fo s (.err b e)).1 0).length=4:=by
   simp only[fo];unfold prV;rfl
  omega
 |ok v a =>
  have hc:=(zV s n).1 _ _ _ _ h (Nat.zero_le _) 0
  have ha:=(kb s n).1 _ _ _ _ h (Nat.zero_le _)
  simp only[fo] at he ⊢
  by_cases g:blk s a<s.length
  ·rw[if_pos g] at he;simp at he
  ·rw[if_neg g] at he ⊢
   by_cases g2:fk v≠0
   ·rw[if_pos g2] at he;exact (g2 he).elim
   ·rw[if_neg g2]
    show fk v=0∧(prV false false v 0).length≤6*s.length+4
    exact⟨by omega,by omega⟩
theorem wY (v:Val) (h:fk v=0):∃n r,fZ (prV false false v 0) n 1 0=some r∧fo (prV false false v 0) r=(v,0,0):=by
 have hck:=yk 41 v 1 2000 (by omega) h (by omega)
 generalize hp:prV false false v 0=p at *
 have:=Cy false false p 41 v 0 1 [] [] 0 (3*p.length+1) hck (fun _ h=>by cases h) (by rw[hp];simp) (fun c hc=>by cases hc) (by omega) (by omega)
 rw[Cx 41 v 1 hck,hp] at this
 refine⟨_,_,this,?_⟩
 have hb:=dO (s:=p) (a:=0+([]:List UInt8).length+p.length) (by simp)
 have hl:0+([]:List UInt8).length+p.length=p.length:=by simp
 simp only[fo]
 rw[if_neg (by omega),if_neg (by omega)]
theorem Lm (s:List UInt8):cw (.f 7) [.str s] ⟨[],0⟩=some (.bool true,⟨[],0⟩):=by
 have h9:=fun (Q:IV→IM→Option (IV×IM))=>af (Jv s ⟨[],0⟩) (by simp[go_sem]) Q
 have h10:=fun (Q:IV→IM→Option (IV×IM))=>af A5 (by simp[go_sem]) Q
 have h10':=fun (Q:IV→IM→Option LR)=>af A5 (by simp[go_sem]) Q
 apply EM
 by_cases hl:s.length≤1200
 ·have h11:=fun (Q:IV→IM→Option (IV×IM))=>af (Jb s (by omega)) (by simp[go_sem]) Q
  have hA:=sZ s (s.length+1) 0 [] .nil
  have hid:Chs s→(visit (fR s) (s.length+1) s 0 []).2=s:=by
   intro hs
   have:=uW s (s.length+1) 0 [] (by rw[List.drop_zero];exact hs) (by rw[List.drop_zero];omega)
   rwa [List.drop_zero,List.nil_append] at this
  rw[List.drop_zero] at hA
  have hAl:(visit (fR s) (s.length+1) s 0 []).2.length≤1099511627776:=by
   have:=(yQ s (by omega)).2
   omega
  generalize (visit (fR s) (s.length+1) s 0 []).2=A at *
  have hvA:=vO hA (A.length+1) 0
  have c31A:=uC A hAl ⟨[],0⟩
  rw[hvA] at c31A
  have h31A:=fun (Q:IV→IM→Option (IV×IM))=>af c31A (by simp[go_sem]) Q
  have c31s:=uC s (by omega) ⟨[],0⟩
  obtain⟨is,off,h31s,hC⟩:∃(is:Bool) (off:Int),(∀Q:IV→IM→Option (IV×IM),aw cw (.f 31) [.str s] [] ⟨[],0⟩ Q=Q (.tup [.bool is,.int .i64 off]) ⟨[],0⟩)∧yE s A true is ⟨[],0⟩=some (.normal,[.str s,.bool false],[],⟨[],0⟩):=by
   cases hv:lz (s.length+1) s 0 with
   |none =>
    rw[hv] at c31s
    refine⟨true,_,fun Q=>af c31s (by simp[go_sem]) Q,?_⟩
    have:=hid (rj _ _ _ (by omega) hv)
    subst this
    simp[yE,go_sem]
   |some x =>
    rw[hv] at c31s
    refine⟨false,_,fun Q=>af c31s (by simp[go_sem]) Q,?_⟩
    simp[yE,go_sem]
  obtain⟨r,hr⟩:=(Ah s (3*s.length+1)).1 1 0 (Nat.zero_le _) (by omega)
  obtain⟨c1,hc1,h13⟩:=yH s (by omega) _ r hr ⟨[],0⟩
  have hok:=Au s (by omega) _ r hr
  have hright:=wI s _ r hr
  generalize fo s r=q at *
  obtain⟨v,off2,e⟩:=q
  simp only at *
  obtain⟨k1,t1,K1,V1,rfl,hK1,hV1,_,_⟩:=hc1.cells
  have q13:=fun (Q:IV→IM→Option (IV×IM))=>af h13 (by simp[go_sem]) Q
  by_cases he:e=0
  ·subst he
   obtain⟨hck,hpl⟩:=hright rfl
   obtain⟨n2,r2,hr2,hp2⟩:=wY v hck
   obtain⟨c2,hc2,h13b⟩:=yH (prV false false v 0) (by omega) n2 r2 hr2 ⟨[],0⟩
   rw[hp2] at hc2 h13b
   simp only at hc2 h13b
   have h18:=DZ v _ hc1 hok ⟨[],0⟩
   have hps:kg false false v=(prV false false v 0,0):=by
    unfold kg
    rw[if_neg (by omega),if_neg (by omega)]
   rw[hps] at h18
   generalize prV false false v 0=p at *
   obtain⟨k2,t2,K2,V2,rfl,hK2,hV2,_,_⟩:=hc2.cells
   obtain⟨c3,hc3,h16a⟩:=AZ _ _ ⟨[],0⟩ hc1 hok
   obtain⟨c4,hc4,h16b⟩:=AZ _ _ ⟨[],0⟩ hc2 hok
   have h15:=BM _ c4 c3 ⟨[],0⟩ hc4 hc3 hok
   obtain⟨k3,t3,K3,V3,rfl,hK3,hV3,_,_⟩:=hc3.cells
   obtain⟨k4,t4,K4,V4,rfl,hK4,hV4,_,_⟩:=hc4.cells
   have q18:=fun (Q:IV→IM→Option (IV×IM))=>af h18 (by simp[go_sem,hK1,hV1]) Q
   have q13b:=fun (Q:IV→IM→Option (IV×IM))=>af h13b (by simp[go_sem]) Q
   have q16a:=fun (Q:IV→IM→Option LR)=>af h16a (by simp[go_sem,hK1,hV1]) Q
   have q16b:=fun (Q:IV→IM→Option LR)=>af h16b (by simp[go_sem,hK2,hV2]) Q
   have q15:=fun (Q:IV→IM→Option LR)=>af h15 (by simp[go_sem,hK3,hV3,hK4,hV4]) Q
   have hw:IntKind.i64.wrap ((0:Int)+0)=0:=by decide
   have hC1:CW 0 0 k1 t1 K1 V1 k2 t2 K2 V2 ⟨[],0⟩=some (.normal,[.bool true],[],⟨[],0⟩):=by
    simp only[CW,hw,go_sem,BEq.rfl,if_true,q16b,q16a,q15,h10']
   simp only[F7,go_sem,h9,hl,decide_true,Bool.not_true,Bool.false_eq_true,if_false,h11,bne_self_eq_false,h31A,h31s,hC,q13,ah hK1,ah hV1,q18,q13b,ah hK2,ah hV2,hC1,if_true]
  ·have he':(e != 0)=true:=by simpa using he
   simp only[F7,go_sem,h9,hl,decide_true,Bool.not_true,Bool.false_eq_true,if_false,h11,bne_self_eq_false,h31A,h31s,hC,q13,ah hK1,ah hV1,he',if_true,h10]
 ·simp[F7,go_sem,h9,hl,h10]
end Go.Idl
