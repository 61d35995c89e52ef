/- This text proves what the interpreter returns at the functions that OpsConverts reaches, last part, and that it returns true at OpsConverts; it has no conditions. -/
import Derived.Test.YthjfhjjgfjpcoaaGreatDoorIdp
set_option linter.unusedSimpArgs false
set_option linter.unusedVariables false
namespace Go.Idl
attribute [local go_sem] uV_cons uI_cons gI gS iteC_if grd_if asI_mk asB_mk asS_mk asA_mk asT_mk asP_mk asP0_mk unc_cons unn_nil unb_cons unbn_nil asC_mk asIt_mk nilV_nil exC_if bindX_mk bindX_none refsC_nil refsC_cons plainC_nil plainC_cons ldP_pI ldP_pB nxt_inl nxt_inr nxt_if rA_nil rA_cons rD_of rD_int rD_bool rD_str rD_agg rD_tup go_nil go_cons elR_agg elR_int elR_bool elR_str elR_of refs_int refs_bool refs_str refs_nil refs_sl settle_id settle_set refsAll_nil refsAll_isSome refs_pB refs_fn cells_int cells_bool cells_str cells_pB cells_agg cells_fn cells_nil cells_sl List.flatMap_cons List.flatMap_nil
theorem ix2 (a b:IV) (i:Nat) (h:i<2):POp.ev (.indexS 1) [.sl [a,b] 2,.int .i64 (i:Int)]=some (.pI [a,b] i):=by
 have c1:(i:Int)<2:=by omega
 have c2:(0:Int)≤(i:Int):=by omega
 simp[POp.ev,c1,c2]
theorem call29 (a b:Int) (m:IM):cw (.f 29) [.sl [.int .i64 a,.int .i64 b] 2] m=some (.int .i64 (if a=0 then b else a),m):=by
 have d0:decide ((0:Int)<2)=true:=rfl
 have d1:decide ((1:Int)<2)=true:=rfl
 have d2:decide ((2:Int)<2)=false:=rfl
 have hlen:POp.ev .lenSlice [.sl [.int .i64 a,.int .i64 b] 2]=some (.int .i64 2):=rfl
 have i0:POp.ev (.indexS 1) [.sl [.int .i64 a,.int .i64 b] 2,.int .i64 0]=some (.pI [.int .i64 a,.int .i64 b] 0):=ix2 _ _ 0 (by decide)
 have i1:POp.ev (.indexS 1) [.sl [.int .i64 a,.int .i64 b] 2,.int .i64 1]=some (.pI [.int .i64 a,.int .i64 b] 1):=ix2 _ _ 1 (by decide)
 have k0:=fun (R:Type) (K:IV→Option R)=>cutC_false (cs:=[.int .i64 a,.int .i64 b]) (off:=0) (n:=1) (v:=.int .i64 a) rfl K
 have k1:=fun (R:Type) (K:IV→Option R)=>cutC_false (cs:=[.int .i64 a,.int .i64 b]) (off:=1) (n:=1) (v:=.int .i64 b) rfl K
 have nl:∀(R:Type) (X:Option R),notL (.sl [.int .i64 a,.int .i64 b] 2) X=X:=fun _ _=>rfl
 apply F29_call
 unfold F29
 rw[evC_of hlen,asI_mk,nl]
 by_cases h1:a=0
 ·subst h1
  have f1:L29_0 (.sl [.int .i64 0,.int .i64 b] 2) 2 0 m=L29_0 (.sl [.int .i64 0,.int .i64 b] 2) 2 1 m:=by
   rw[L29_0_eq]
   simp only[B29_0,go_sem,d0,evC_of i0,k0,nl,bne_self_eq_false,Bool.false_eq_true,if_false,if_true,wr1]
   rfl
  rw[f1,L29_0_eq,if_pos rfl]
  by_cases h2:b=0
  ·subst h2
   have f2:nxt f29_0 (B29_0 (.sl [.int .i64 0,.int .i64 0] 2) 2 1 m)=L29_0 (.sl [.int .i64 0,.int .i64 0] 2) 2 2 m:=by
    simp only[B29_0,go_sem,d1,evC_of i1,k1,nl,bne_self_eq_false,Bool.false_eq_true,if_false,if_true,wr2]
    rfl
   rw[f2,L29_0_eq]
   simp only[B29_0,go_sem,d2,Bool.false_eq_true,if_false,if_true]
  ·have e2:(b != 0)=true:=by simpa using h2
   simp only[B29_0,go_sem,d1,evC_of i1,k1,e2,if_true,reduceCtorEq,if_false]
 ·have e1:(a != 0)=true:=by simpa using h1
  rw[L29_0_eq,if_neg h1]
  simp only[B29_0,go_sem,d0,evC_of i0,k0,e1,if_true,reduceCtorEq,if_false]
theorem widR_ok (s:List UInt8):((widR s).2=0↔(tyOk s=true∨isFlB s=true∨s=[112,116,114])):=by
 unfold widR
 by_cases h1:s=[112,116,114]
 ·rw[if_pos h1];simp[h1]
 ·by_cases h2:s=[102,51,50]
  ·rw[if_neg h1,if_pos h2];simp[isFlB,h2]
  ·by_cases h3:s=[102,54,52]
   ·rw[if_neg h1,if_neg h2,if_pos h3];simp[isFlB,h3]
   ·rw[if_neg h1,if_neg h2,if_neg h3]
    by_cases h4:(tyR s).1=0
    ·simp[tyOk,h4]
    ·simp[tyOk,h4,h1,isFlB,h2,h3]
theorem scal_ok (s:List UInt8):(tyOk s||isFlB s)=(decide ((widR s).2=0)&&decide (¬s=[112,116,114])):=by
 have h:=widR_ok s
 by_cases q:s=[112,116,114]
 ·subst q;rfl
 ·by_cases e:(widR s).2=0
  ·rcases h.1 e with g | g | g
   ·simp[e,q,g]
   ·simp[e,q,g]
   ·exact absurd g q
  ·have g1:tyOk s=false:=Bool.eq_false_iff.2 fun g=>e (h.2 (.inl g))
   have g2:isFlB s=false:=Bool.eq_false_iff.2 fun g=>e (h.2 (.inr (.inl g)))
   simp[e,g1,g2]
theorem call6 (op:Int) (f t:List UInt8) (m:IM):cw (.f 6) [.int .i64 op,.str f,.str t] m=some (.bool (convB op f t),m):=by
 have a28:=fun (s:List UInt8) (R:Type) (K:IV→IM→Option R)=>callC_cw (call28 s m) (by simp[go_sem]) K
 have a9:=fun (s:List UInt8) (R:Type) (K:IV→IM→Option R)=>callC_cw (call9 s m) (by simp[go_sem]) K
 have a30:=fun (s:List UInt8) (R:Type) (K:IV→IM→Option R)=>callC_cw (call30 s m) (by simp[go_sem]) K
 have a29:=fun (a b:Int) (R:Type) (K:IV→IM→Option R)=>callC_cw (call29 a b m) (by rfl) K
 apply F6_call
 unfold F6
 simp only[a28,a9,go_sem]
 by_cases h38:op=38
 ·subst h38
  cases h1:tyOk f<;>simp[C6_c0,C6_c1,go_sem,convB,h1]
 by_cases h39:op=39
 ·subst h39
  cases h1:tyOk f<;>simp[C6_c0,C6_c1,go_sem,convB,h1]
 have b38:(op==38)=false:=by simpa using h38
 have b39:(op==39)=false:=by simpa using h39
 have n1:¬(op=38∨op=39):=by omega
 by_cases h40:op=40
 ·subst h40
  cases h1:tyOk f<;>cases h2:tyOk t<;>simp[C6_c0,C6_c2,go_sem,convB,h1,h2]
 have b40:(op==40)=false:=by simpa using h40
 by_cases h41:op=41
 ·subst h41
  have p:∀(x y:Bool),(x && !y)=true↔x=true∧y=false:=by decide
  have h0:(if (widR f).2=0 then (widR t).2 else (widR f).2)=0↔(widR f).2=0∧(widR t).2=0:=by
   by_cases q:(widR f).2=0<;>simp[q]
  by_cases e1:(widR f).2=0
  ·by_cases e2:(widR t).2=0
   ·by_cases w:(widR f).1=(widR t).1
    ·by_cases q1:f=[112,116,114]
     ·simp[C6_c0,C6_c3,go_sem,convB,scal_ok,a29,e1,e2,w,q1]
     ·by_cases q2:t=[112,116,114]<;>simp[C6_c0,C6_c3,go_sem,convB,scal_ok,a29,e1,e2,w,q1,q2]
    ·simp[C6_c0,C6_c3,go_sem,convB,scal_ok,a29,e1,e2,w]
   ·simp[C6_c0,C6_c3,go_sem,convB,scal_ok,a29,e1,e2]
  ·simp[C6_c0,C6_c3,go_sem,convB,scal_ok,a29,e1]
 have b41:(op==41)=false:=by simpa using h41
 by_cases h42:op=42
 ·subst h42
  cases h1:tyOk f<;>simp[C6_c0,C6_c4,go_sem,convB,h1,a30]
 have b42:(op==42)=false:=by simpa using h42
 have n2:¬(op=40):=h40
 by_cases h43:op=43
 ·subst h43
  cases h1:isFlB f<;>simp[C6_c0,C6_c5,C6_c6,go_sem,convB,h1,a30]
 have b43:(op==43)=false:=by simpa using h43
 by_cases h44:op=44
 ·subst h44
  cases h1:isFlB f<;>simp[C6_c0,C6_c5,C6_c6,go_sem,convB,h1,a30]
 have b44:(op==44)=false:=by simpa using h44
 by_cases h45:op=45
 ·subst h45
  cases h1:isFlB f<;>cases h2:isFlB t<;>simp[C6_c0,C6_c5,C6_c7,go_sem,convB,h1,h2,a30]
  by_cases q:f=t<;>simp[q]
 have b45:(op==45)=false:=by simpa using h45
 have n3:¬(op=43∨op=44):=by omega
 simp[C6_c0,C6_c5,go_sem,convB,b38,b39,b40,b41,b42,b43,b44,b45,n1,h38,h39,h40,h41,h42,h43,h44,n3,h45]
theorem idxAt {s:List UInt8}{i:Nat}(h:i<s.length):POp.ev .idxStr [.str s,.int .i64 (i:Int)]=some (.int .u8 s[i].toNat):=by
 have c2:(0:Int)≤(i:Int):=by omega
 simp[POp.ev,c2,h]
theorem digB_iff (b:UInt8):digB b=(decide ((48:Int)≤b.toNat)&&decide ((b.toNat:Int)≤57)):=by
 have h1:Nat.ble 48 b.toNat=decide ((48:Int)≤b.toNat):=by
  by_cases q:48≤b.toNat
  ·rw[Nat.ble_eq_true_of_le q,decide_eq_true (by omega)]
  ·rw[Bool.eq_false_iff.2 fun e=>q (Nat.le_of_ble_eq_true e),decide_eq_false (by omega)]
 have h2:Nat.ble b.toNat 57=decide ((b.toNat:Int)≤57):=by
  by_cases q:b.toNat≤57
  ·rw[Nat.ble_eq_true_of_le q,decide_eq_true (by omega)]
  ·rw[Bool.eq_false_iff.2 fun e=>q (Nat.le_of_ble_eq_true e),decide_eq_false (by omega)]
 rw[digB,h1,h2]
theorem loop92 (s:List UInt8) (hl:s.length≤3) (m:IM):∀(j i n:Nat),s.length=i+j→n<10^i →
  L92_0 s n i m=some (if digsB (s.drop i)=true then (.exit 0,[.int .i64 ((atoB n (s.drop i)).getD 0:Nat)],[],m) else (.ret,[.int .i64 0,.bool false],[],m)):=by
 intro j
 induction j with
 |zero =>
  intro i n hk hn
  have e:s.drop i=[]:=List.drop_eq_nil_iff.2 (by omega)
  have c1:¬(i:Int)<(s.length:Int):=by omega
  rw[e,L92_0_eq]
  simp[B92_0,go_sem,c1,digsB,atoB]
 |succ j ih =>
  intro i n hk hn
  have hi:i<s.length:=by omega
  have c1:(i:Int)<(s.length:Int):=by omega
  have h159:=fun (R:Type) (K:IV→IM→Option R)=>callC_cw (call159 (s[i].toNat:Int) m) (by simp[go_sem]) K
  rw[List.drop_eq_getElem_cons hi,L92_0_eq]
  cases g:digB s[i] with
  |false =>
   have g':=g
   rw[digB_iff] at g'
   simp only[digsB,g,Bool.false_and,Bool.false_eq_true,if_false]
   simp only[B92_0,go_sem,c1,decide_true,if_true,evC_of (idxAt hi),h159,g',Bool.not_false]
  |true =>
   have g':=g
   rw[digB_iff] at g'
   have g2:=g'
   simp only[Bool.and_eq_true,decide_eq_true_eq] at g2
   have hp:10^i≤10^3:=Nat.pow_le_pow_right (by decide) (by omega)
   have e1:IntKind.u8.wrap ((s[i].toNat:Int)-48)=((s[i].toNat-48:Nat):Int):=by rw[w8 (by omega) (by omega)];omega
   have e2:IntKind.i64.wrap ((s[i].toNat-48:Nat):Int)=((s[i].toNat-48:Nat):Int):=w64 (by omega) (by omega)
   have e3:IntKind.i64.wrap (10*(n:Int))=10*(n:Int):=w64 (by omega) (by omega)
   have e4:IntKind.i64.wrap (10*(n:Int)+((s[i].toNat-48:Nat):Int))=((n*10+(s[i].toNat-48):Nat):Int):=by rw[w64 (by omega) (by omega)];omega
   have e5:IntKind.i64.wrap ((i:Int)+1)=((i+1:Nat):Int):=by rw[w64 (by omega) (by omega)];rfl
   have ha:atoB n (s[i]::s.drop (i+1))=atoB (n*10+(s[i].toNat-48)) (s.drop (i+1)):=by
    rw[atoB]
    have:(Nat.ble 48 s[i].toNat&&Nat.ble s[i].toNat 57)=true:=g
    rw[this]
   simp only[digsB,g,Bool.true_and,ha]
   rw[←ih (i+1) (n*10+(s[i].toNat-48)) (by omega) (by rw[Nat.pow_succ];omega)]
   simp only[B92_0,go_sem,c1,decide_true,if_true,evC_of (idxAt hi),h159,g',Bool.not_true,Bool.false_eq_true,if_false,e1,e2,e3,e4,e5]
   rfl
theorem call92 (s:List UInt8) (hl:s.length≤3) (m:IM):cw (.f 92) [.str s] m=some (.tup [.int .i64 (if isNumB s=true then (valB s:Int) else 0),.bool (isNumB s)],m):=by
 have hL:=loop92 s hl m s.length 0 0 (by omega) (by decide)
 rw[List.drop_zero] at hL
 have hL:L92_0 s 0 0 m=_:=hL
 apply F92_call
 have c15:¬(s.length:Int)>15:=by omega
 cases s with
 |nil=>simp[F92,C92_c0,go_sem,isNumB]
 |cons b r =>
  have e2:((b::r)==([]:List UInt8))=false:=rfl
  cases r with
  |nil =>
   have c1:¬(([b]:List UInt8).length:Int)>1:=by simp
   cases h:digsB [b] with
   |false =>
    rw[h] at hL
    simp only[Bool.false_eq_true,if_false] at hL
    have hn:isNumB [b]=false:=by simp[isNumB,h]
    simp only[F92,C92_c0,go_sem,e2,c15,c1,decide_false,Bool.false_eq_true,if_false,hL,hn,reduceCtorEq,if_true]
    exact settle_id rfl
   |true =>
    rw[h] at hL
    simp only[if_true] at hL
    have hn:isNumB [b]=true:=by
     by_cases q:b=48
     ·subst q;rfl
     ·simp[isNumB,h,q]
    simp only[F92,C92_c0,go_sem,e2,c15,c1,decide_false,Bool.false_eq_true,if_false,hL,hn,if_true]
    exact settle_id (v:=.tup [.int .i64 ((valB [b]:Nat):Int),.bool true]) rfl
  |cons b2 r =>
   have c1:((b::b2::r).length:Int)>1:=by simp only[List.length_cons];omega
   have e3:((b.toNat:Int)==48)=decide (b=48):=by
    by_cases q:b=48
    ·subst q;rfl
    ·have:(b.toNat:Int)≠48:=fun e=>q (UInt8.toNat_inj.1 (by show b.toNat=48;omega))
     simp[q,this]
   by_cases q:b=48
   ·subst q
    have hn:isNumB (48::b2::r)=false:=by simp[isNumB]
    have e4:(((48:UInt8).toNat:Int)==48)=true:=rfl
    simp only[F92,C92_c0,go_sem,e2,c15,c1,decide_false,decide_true,Bool.false_eq_true,if_false,if_true,evC_of idx0,e4,hn]
    exact settle_id rfl
   ·cases h:digsB (b::b2::r) with
    |false =>
     rw[h] at hL
     simp only[Bool.false_eq_true,if_false] at hL
     have hn:isNumB (b::b2::r)=false:=by simp[isNumB,h]
     simp only[F92,C92_c0,go_sem,e2,c15,c1,decide_false,decide_true,Bool.false_eq_true,if_false,if_true,evC_of idx0,e3,q,hL,hn,reduceCtorEq]
     exact settle_id rfl
    |true =>
     rw[h] at hL
     simp only[if_true] at hL
     have hn:isNumB (b::b2::r)=true:=by simp[isNumB,h,q]
     simp only[F92,C92_c0,go_sem,e2,c15,c1,decide_false,decide_true,Bool.false_eq_true,if_false,if_true,evC_of idx0,e3,q,hL,hn]
     exact settle_id (v:=.tup [.int .i64 ((valB (b::b2::r):Nat):Int),.bool true]) rfl
theorem call45 (b:Bool) (e:Int) (m:IM):cw (.f 45) [.bool b,.int .i64 e] m=some (.int .i64 (if b then e else 0),m):=by
 apply F45_call
 cases b<;>simp[F45,go_sem]
def prR:List UInt8→Bool×Int×Int
 |[]=>(false,0,6)
 |c::d=>if (c=117∨c=105)∧isNumB d=true∧d.length≤3 then (decide (c=105),(valB d:Int),if 64<valB d∨(valB d=0∧c=105) then 3 else 0) else (false,0,6)
theorem prR_err (s:List UInt8):(prR s).2.2=(tyR s).1:=by
 cases s with
 |nil=>rfl
 |cons c d =>
  by_cases h1:(c=117∨c=105)∧isNumB d=true∧d.length≤3
  ·by_cases h2:64<valB d∨valB d=0∧c=105
   ·simp only[tyR,prR];rw[if_pos h1,if_pos h1,if_pos h2,if_pos h2]
   ·simp only[tyR,prR];rw[if_pos h1,if_pos h1,if_neg h2,if_neg h2]
  ·simp only[tyR,prR];rw[if_neg h1,if_neg h1]
theorem prR_ok (s:List UInt8) (h:(tyR s).1=0):prR s=((tyR s).2.2,(tyR s).2.1,0):=by
 cases s with
 |nil=>cases h
 |cons c d =>
  by_cases h1:(c=117∨c=105)∧isNumB d=true∧d.length≤3
  ·by_cases h2:64<valB d∨valB d=0∧c=105
   ·simp only[tyR] at h;rw[if_pos h1,if_pos h2] at h;cases h
   ·simp only[tyR,prR];rw[if_pos h1,if_pos h1,if_neg h2,if_neg h2]
  ·simp only[tyR] at h;rw[if_neg h1] at h;cases h
theorem u8ne (b:UInt8) (n:Nat) (hn:n<256):((b.toNat:Int) != (n:Int))=decide (b≠UInt8.ofNat n):=by
 by_cases q:b=UInt8.ofNat n
 ·subst q
  have:(UInt8.ofNat n).toNat=n:=by simp;omega
  simp[this]
 ·have:(b.toNat:Int)≠(n:Int):=fun e=>q (UInt8.toNat_inj.1 (by simp;omega))
  simp[q,this]
theorem c58 (c:UInt8) (d:List UInt8) (m:IM):C58_c0 (c::d) m=some (.normal,[.str (c::d),.bool (!(decide (c=117∨c=105)&&decide (d.length≤3)))],[],m):=by
 have e2:((c::d)==([]:List UInt8))=false:=rfl
 have e3:((c.toNat:Int) != 117)=decide (c≠117):=u8ne c 117 (by decide)
 have e4:((c.toNat:Int) != 105)=decide (c≠105):=u8ne c 105 (by decide)
 have e5:decide (((c::d).length:Int)>4)=!decide (d.length≤3):=by
  rw[List.length_cons]
  by_cases q:d.length≤3
  ·rw[decide_eq_true q,decide_eq_false (by omega)];rfl
  ·rw[decide_eq_false q,decide_eq_true (by omega)];rfl
 simp only[C58_c0,go_sem,e2,evC_of idx0,e3,e4,e5,Bool.false_eq_true,if_false]
 by_cases q1:c=117
 ·subst q1;simp
 ·by_cases q2:c=105
  ·subst q2;simp
  ·simp[q1,q2]
theorem call58 (s:List UInt8) (m:IM):cw (.f 58) [.str s] m=some (.tup [.bool (prR s).1,.int .i64 (prR s).2.1,.int .i64 (prR s).2.2],m):=by
 have h45:=fun (b:Bool) (R:Type) (K:IV→IM→Option R)=>callC_cw (call45 b 3 m) (by simp[go_sem]) K
 apply F58_call
 cases s with
 |nil =>
  simp only[F58,C58_c0,go_sem,beq_self_eq_true,if_true]
  exact settle_id rfl
 |cons c d =>
  unfold F58
  rw[c58]
  by_cases h1:(c=117∨c=105)∧d.length≤3
  ·have h92:=fun (R:Type) (K:IV→IM→Option R)=>callC_cw (call92 d h1.2 m) (by simp[go_sem]) K
   have b1:(decide (c=117∨c=105)&&decide (d.length≤3))=true:=by rw[decide_eq_true h1.1,decide_eq_true h1.2];rfl
   cases h2:isNumB d with
   |false =>
    have hp:prR (c::d)=(false,0,6):=by
     simp only[prR];rw[if_neg (fun e=>by rw[h2] at e;cases e.2.1)]
    rw[b1,hp]
    simp only[go_sem,Bool.not_true,Bool.false_eq_true,if_false,evC_of (slc2 c d),h92,h2,Bool.not_false,if_true]
    exact settle_id rfl
   |true =>
    have e4:((c.toNat:Int)==105)=decide (c=105):=by
     have:=u8ne c 105 (by decide)
     simp only[bne,decide_not] at this
     simpa using this
    have hp:prR (c::d)=(decide (c=105),(valB d:Int),if 64<valB d∨(valB d=0∧c=105) then 3 else 0):=by
     simp only[prR];rw[if_pos ⟨h1.1,h2,h1.2⟩]
    have hc:C58_c1 (valB d) (decide (c=105)) m=some (.normal,[.bool (decide (c=105)),.int .i64 (valB d),.int .i64 (if 64<valB d∨(valB d=0∧c=105) then 3 else 0)],[],m):=by
     simp only[C58_c1,go_sem,h45]
     by_cases g1:64<valB d
     ·have:(valB d:Int)>64:=by omega
      simp[g1,this]
     ·have:¬(valB d:Int)>64:=by omega
      by_cases g2:c=105
      ·by_cases g3:valB d=0
       ·simp[g2,g3]
       ·have g4:((valB d:Int)==0)=false:=by simpa using g3
        simp[g1,this,g2,g3,g4]
      ·simp[g1,this,g2]
    rw[b1,hp]
    simp only[go_sem,Bool.not_true,Bool.false_eq_true,if_false,evC_of (slc2 c d),h92,h2,if_true,evC_of idx0,e4,hc]
    exact settle_id rfl
  ·have b1:(decide (c=117∨c=105)&&decide (d.length≤3))=false:=by
    rw[Bool.and_eq_false_iff,decide_eq_false_iff_not,decide_eq_false_iff_not]
    by_cases q:c=117∨c=105
    ·exact .inr fun e=>h1 ⟨q,e⟩
    ·exact .inl q
   have hp:prR (c::d)=(false,0,6):=by
    simp only[prR];rw[if_neg (fun e=>h1 ⟨e.1,e.2.2⟩)]
   rw[b1,hp]
   simp only[go_sem,Bool.not_false,if_true]
   exact settle_id rfl
theorem call36 (s:List UInt8) (m:IM):cw (.f 36) [.str s] m=some (.tup [.int .i64 (tyR s).2.1,.bool (tyR s).2.2,.int .i64 (tyR s).1],m):=by
 have h58:=fun (R:Type) (K:IV→IM→Option R)=>callC_cw (call58 s m) (by simp[go_sem]) K
 apply F36_call
 by_cases q:(tyR s).1=0
 ·have e1:(((prR s).2.2) != 0)=false:=by rw[prR_err,q];rfl
  simp only[F36,go_sem,h58,e1,Bool.false_eq_true,if_false]
  rw[prR_ok s q,q]
  exact settle_id rfl
 ·have e1:(((prR s).2.2) != 0)=true:=by rw[prR_err];simpa using q
  simp only[F36,go_sem,h58,e1,if_true]
  rw[prR_err,tyR_bad s q]
  exact settle_id rfl
theorem call50 (s:List UInt8) (m:IM):cw (.f 50) [.str s] m=some (.int .i64 (tyR s).1,m):=by
 have h58:=fun (R:Type) (K:IV→IM→Option R)=>callC_cw (call58 s m) (by simp[go_sem]) K
 apply F50_call
 simp[F50,go_sem,h58,prR_err]
theorem call31 (s:List UInt8) (m:IM):cw (.f 31) [.str s] m=some (.bool (tyOk s),m):=by
 have h:=fun (R:Type) (K:IV→IM→Option R)=>callC_cw (call50 s m) (by simp[go_sem]) K
 have e:((tyR s).1==0)=tyOk s:=by
  simp only[tyOk]
  by_cases q:(tyR s).1=0<;>simp[q]
 apply F31_call
 simp[F31,go_sem,h,e]
theorem call32 (s:List UInt8) (m:IM):cw (.f 32) [.str s] m=some (.bool (isFlB s),m):=by
 apply F32_call
 by_cases q:s=[102,51,50]
 ·subst q;simp[F32,C32_c0,go_sem,isFlB]
 ·by_cases q2:s=[102,54,52]
  ·subst q2;simp[F32,C32_c0,go_sem,isFlB]
  ·simp[F32,C32_c0,go_sem,isFlB,q,q2]
theorem call10 (s:List UInt8) (m:IM):cw (.f 10) [.str s] m=some (.tup [.int .i64 (widR s).1,.int .i64 (widR s).2],m):=by
 have h:=fun (R:Type) (K:IV→IM→Option R)=>callC_cw (call36 s m) (by simp[go_sem]) K
 apply F10_call
 by_cases q:s=[102,51,50]
 ·subst q
  simp only[F10,go_sem,beq_self_eq_true,if_true]
  exact settle_id rfl
 ·have e1:(s==[102,51,50])=false:=by simpa using q
  by_cases q2:s=[102,54,52]
  ·subst q2
   simp only[F10,C10_c0,go_sem,e1,beq_self_eq_true,if_true,Bool.false_eq_true,if_false]
   exact settle_id rfl
  ·have e2:(s==[102,54,52])=false:=by simpa using q2
   by_cases q3:s=[112,116,114]
   ·subst q3
    simp only[F10,C10_c0,go_sem,e1,e2,beq_self_eq_true,if_true,Bool.false_eq_true,if_false]
    exact settle_id rfl
   ·have e3:(s==[112,116,114])=false:=by simpa using q3
    unfold widR
    rw[if_neg q3,if_neg q,if_neg q2]
    by_cases g:(tyR s).1=0
    ·have g1:((tyR s).1 != 0)=false:=by rw[g];rfl
     simp only[F10,C10_c0,go_sem,e1,e2,e3,h,g1,if_true,Bool.false_eq_true,if_false,if_pos g]
     exact settle_id rfl
    ·have g1:((tyR s).1 != 0)=true:=by simpa using g
     simp only[F10,C10_c0,go_sem,e1,e2,e3,h,g1,if_true,Bool.false_eq_true,if_false,if_neg g]
     exact settle_id rfl
theorem wid_ty (s:List UInt8) (h:tyOk s=true):(widR s).1=(tyR s).2.1:=by
 have h':(tyR s).1=0:=by simpa[tyOk] using h
 unfold widR
 rw[if_neg (fun e=>by subst e;cases h),if_neg (fun e=>by subst e;cases h),if_neg (fun e=>by subst e;cases h),if_pos h']
theorem call7 (op:Int) (f t:List UInt8) (m:IM):cw (.f 7) [.int .i64 op,.str f,.str t] m=some (.bool (convB op f t),m):=by
 have a31:=fun (s:List UInt8) (R:Type) (K:IV→IM→Option R)=>callC_cw (call31 s m) (by simp[go_sem]) K
 have a10:=fun (s:List UInt8) (R:Type) (K:IV→IM→Option R)=>callC_cw (call10 s m) (by simp[go_sem]) K
 have a32:=fun (s:List UInt8) (R:Type) (K:IV→IM→Option R)=>callC_cw (call32 s m) (by simp[go_sem]) K
 apply F7_call
 unfold F7
 simp only[a31,a10,go_sem]
 by_cases h38:op=38
 ·subst h38
  cases h1:tyOk f<;>simp[C7_c0,C7_c1,go_sem,convB,h1]
 by_cases h39:op=39
 ·subst h39
  cases h1:tyOk f<;>simp[C7_c0,C7_c1,go_sem,convB,h1]
 have b38:(op==38)=false:=by simpa using h38
 have b39:(op==39)=false:=by simpa using h39
 have n1:¬(op=38∨op=39):=by omega
 by_cases h40:op=40
 ·subst h40
  cases h1:tyOk f with
  |false=>simp[C7_c0,C7_c2,go_sem,convB,h1]
  |true =>
   cases h2:tyOk t with
   |false=>simp[C7_c0,C7_c2,go_sem,convB,h1,h2]
   |true=>simp[C7_c0,C7_c2,go_sem,convB,h1,h2,wid_ty f h1,wid_ty t h2]
 by_cases h41:op=41
 ·subst h41
  have e:((widR f).1==(widR t).1)=decide ((widR f).1=(widR t).1):=rfl
  cases h1:tyOk f<;>cases h2:tyOk t<;>cases h3:isFlB f<;>cases h4:isFlB t<;>simp[C7_c0,C7_c3,go_sem,convB,h1,h2,h3,h4,a32,e]
 by_cases h42:op=42
 ·subst h42
  cases h1:tyOk f<;>simp[C7_c0,C7_c4,go_sem,convB,h1,a32]
 by_cases h43:op=43
 ·subst h43
  cases h1:isFlB f<;>simp[C7_c0,C7_c5,C7_c6,go_sem,convB,h1,a32]
 by_cases h44:op=44
 ·subst h44
  cases h1:isFlB f<;>simp[C7_c0,C7_c5,C7_c6,go_sem,convB,h1,a32]
 by_cases h45:op=45
 ·subst h45
  by_cases q1:f=[102,51,50]
  ·subst q1
   by_cases q2:t=[102,54,52]
   ·subst q2;simp[C7_c0,C7_c5,C7_c7,go_sem,convB,isFlB]
   ·have g2:(t==[102,54,52])=false:=by simpa using q2
    by_cases q3:t=[102,51,50]
    ·subst q3;simp[C7_c0,C7_c5,C7_c7,go_sem,convB,isFlB]
    ·simp[C7_c0,C7_c5,C7_c7,go_sem,convB,isFlB,q2,q3]
  ·by_cases q2:f=[102,54,52]
   ·subst q2
    by_cases q3:t=[102,51,50]
    ·subst q3;simp[C7_c0,C7_c5,C7_c7,go_sem,convB,isFlB]
    ·by_cases q4:t=[102,54,52]
     ·subst q4;simp[C7_c0,C7_c5,C7_c7,go_sem,convB,isFlB]
     ·simp[C7_c0,C7_c5,C7_c7,go_sem,convB,isFlB,q3,q4]
   ·simp[C7_c0,C7_c5,C7_c7,go_sem,convB,isFlB,q1,q2]
 have n3:¬(op=43∨op=44):=by omega
 simp[C7_c0,C7_c5,go_sem,convB,n1,h38,h39,h40,h41,h42,h43,h44,n3,h45]
theorem call5 (a b:List UInt8) (m:IM):∃r:Bool,cw (.f 5) [.sl [.str a,.str b] 2] m=some (.bool r,m):=by
 have d0:decide ((0:Int)<2)=true:=rfl
 have d1:decide ((1:Int)<2)=true:=rfl
 have d2:decide ((2:Int)<2)=false:=rfl
 have hlen:POp.ev .lenSlice [.sl [.str a,.str b] 2]=some (.int .i64 2):=rfl
 have i0:POp.ev (.indexS 1) [.sl [.str a,.str b] 2,.int .i64 0]=some (.pI [.str a,.str b] 0):=ix2 _ _ 0 (by decide)
 have i1:POp.ev (.indexS 1) [.sl [.str a,.str b] 2,.int .i64 1]=some (.pI [.str a,.str b] 1):=ix2 _ _ 1 (by decide)
 have k0:=fun (R:Type) (K:IV→Option R)=>cutC_false (cs:=[.str a,.str b]) (off:=0) (n:=1) (v:=.str a) rfl K
 have k1:=fun (R:Type) (K:IV→Option R)=>cutC_false (cs:=[.str a,.str b]) (off:=1) (n:=1) (v:=.str b) rfl K
 have nl:∀(R:Type) (X:Option R),notL (.sl [.str a,.str b] 2) X=X:=fun _ _=>rfl
 have f2:L5_0 (.sl [.str a,.str b] 2) 2 2 m=some (.exit 0,[],[],m):=by
  rw[L5_0_eq]
  simp only[B5_0,go_sem,d2,Bool.false_eq_true,if_false]
 have f1:L5_0 (.sl [.str a,.str b] 2) 2 1 m=if ((b.length:Int)>300) then some (.ret,[.bool false],[],m) else some (.exit 0,[],[],m):=by
  rw[L5_0_eq,←f2]
  by_cases q:(b.length:Int)>300
  ·simp only[B5_0,go_sem,d1,evC_of i1,k1,q,decide_true,if_true]
  ·simp only[B5_0,go_sem,d1,evC_of i1,k1,q,decide_false,nl,Bool.false_eq_true,if_false,if_true,wr2]
   rfl
 have f0:L5_0 (.sl [.str a,.str b] 2) 2 0 m=if ((a.length:Int)>300) then some (.ret,[.bool false],[],m) else L5_0 (.sl [.str a,.str b] 2) 2 1 m:=by
  rw[L5_0_eq]
  by_cases q:(a.length:Int)>300
  ·simp only[B5_0,go_sem,d0,evC_of i0,k0,q,decide_true,if_true]
  ·simp only[B5_0,go_sem,d0,evC_of i0,k0,q,decide_false,nl,Bool.false_eq_true,if_false,if_true,wr1]
   rfl
 have key:∀r:Bool,F5 (.sl [.str a,.str b] 2) m=some (.bool r,m)→∃r:Bool,cw (.f 5) [.sl [.str a,.str b] 2] m=some (.bool r,m):=fun r h=>⟨r,F5_call _ _ h⟩
 by_cases q:(a.length:Int)>300
 ·refine key false ?_
  unfold F5
  rw[evC_of hlen,asI_mk,nl,f0,if_pos q]
  simp only[go_sem,reduceCtorEq,if_false,if_true]
 ·by_cases q2:(b.length:Int)>300
  ·refine key false ?_
   unfold F5
   rw[evC_of hlen,asI_mk,nl,f0,if_neg q,f1,if_pos q2]
   simp only[go_sem,reduceCtorEq,if_false,if_true]
  ·refine key true ?_
   unfold F5
   rw[evC_of hlen,asI_mk,nl,f0,if_neg q,f1,if_neg q2]
   simp only[go_sem,if_true]
theorem law3 (op:Int) (f t:List UInt8):cw (.f 3) [.int .i64 op,.str f,.str t] ⟨[],0⟩=some (.bool true,⟨[],0⟩):=by
 obtain⟨r,h5⟩:=call5 f t ⟨[],0⟩
 have a5:=fun (R:Type) (K:IV→IM→Option R)=>callC_cw h5 (by rfl) K
 have a6:=fun (R:Type) (K:IV→IM→Option R)=>callC_cw (call6 op f t ⟨[],0⟩) (by simp[go_sem]) K
 have a7:=fun (R:Type) (K:IV→IM→Option R)=>callC_cw (call7 op f t ⟨[],0⟩) (by simp[go_sem]) K
 have a8:=fun (R:Type) (K:IV→IM→Option R)=>callC_cw awake8 (by rfl) K
 apply F3_call
 cases r with
 |false=>simp[F3,C3_c0,go_sem,a5]
 |true=>simp[F3,C3_c0,go_sem,a5,a6,a7,a8]
end Go.Idl
