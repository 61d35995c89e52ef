/- This text proves what the interpreter returns at the functions that OpsConsequences reaches, last part, and that it returns true at OpsConsequences; it has no conditions. -/
import Derived.Test.YtbpnjicaapldoaaGreatDoorIdp
import Derived.Test.YtbpnjicaapldoaaGreatDoorIdo
import Derived.Test.YtbpnjicaapldoaaGreatDoorIdl
set_option linter.unusedSimpArgs false
set_option linter.unusedVariables false
namespace Go.Idl
attribute [local go_sem] uV_cons uI_cons gI gS iteC_if grd_if asI_mk asB_mk asS_mk asA_mk asT_mk asP_mk asP0_mk unc_cons unn_nil unb_cons unbn_nil asC_mk asIt_mk nilV_nil exC_if bindX_mk bindX_none refsC_nil refsC_cons plainC_nil plainC_cons ldP_pI ldP_pB nxt_inl nxt_inr nxt_if rA_nil rA_cons rD_of rD_int rD_bool rD_str rD_agg rD_tup go_nil go_cons elR_agg elR_int elR_bool elR_str elR_of refs_int refs_bool refs_str refs_nil refs_sl settle_id settle_set
theorem tyR_ok {s:List UInt8}(h:tyOk s=true):∃(w:Nat) (sg:Bool),tyR s=(0,(w:Int),sg)∧w≤64∧(sg=true→1≤w):=by
 unfold tyOk at h
 have h:=of_decide_eq_true h
 obtain⟨b1,b2⟩:=tyR_bd s
 refine⟨(tyR s).2.1.toNat,(tyR s).2.2,?_,by omega,?_⟩
 ·rw[Int.toNat_of_nonneg b1]
  exact Prod.ext h rfl
 ·intro hs
  cases s with
  |nil=>simp[tyR] at h
  |cons c d =>
   simp only[tyR] at h hs ⊢
   split at h
   ·rename_i g
    rw[if_pos g] at hs ⊢
    split at h
    ·simp at h
    ·rename_i g2
     rw[if_neg g2] at hs ⊢
     simp only[decide_eq_true_eq] at hs
     simp only[not_or,not_and] at g2
     have h0:¬valB d=0:=fun e=>g2.2 e hs
     show 1≤((valB d:Nat):Int).toNat
     omega
   ·simp at h
def valT (w:Nat) (sg:Bool) (a:Nat):Int:=if sg then svalN w a else a
def txtZ (z:Int):List UInt8:=if z<0 then 45::decN z.natAbs else decN z.natAbs
theorem shr_ev (a k:Nat) (h:k≤64):POp.ev (.bin .shr) [.int .u64 (a:Int),.int .i64 (k:Int)]=some (.int .u64 ((a/2^k:Nat):Int)):=by
 have c:¬(k:Int)<0:=by omega
 have e:Int.fdiv (a:Int) (2^Nat.min k 64)=((a/2^k:Nat):Int):=by
  rw[show Nat.min k 64=k from Nat.min_eq_left h,Int.fdiv_eq_ediv_of_nonneg _ (by exact Int.le_of_lt (Int.pow_pos (by decide)))]
  push_cast
  rfl
 show (if (k:Int)<0 then none else some (IV.int .u64 (Int.fdiv (a:Int) (2^Nat.min (k:Int).toNat 64))))=_
 rw[if_neg c,Int.toNat_natCast,e]
theorem add_str {a b:List UInt8}(h:a.length+b.length≤1000):POp.ev (.bin .add) [.str a,.str b]=some (.str (a++b)):=by
 show (if a.length+b.length≤maxLenI then some (IV.str (a++b)) else none)=_
 rw[if_pos (Nat.le_trans h (by decide))]
theorem top_bit (w a:Nat) (h1:1≤w) (ha:a<2^w):(((a/2^(w-1):Nat):Int)==1)=decide (2^(w-1)≤a):=by
 have e3:2^w=2*2^(w-1):=by rw[←Nat.pow_succ'];congr 1;omega
 have hp:0<2^(w-1):=Nat.two_pow_pos _
 by_cases g:2^(w-1)≤a
 ·have h2:a/2^(w-1)=1:=by
   have l1:1≤a/2^(w-1):=(Nat.le_div_iff_mul_le hp).2 (by omega)
   have l2:a/2^(w-1)<2:=(Nat.div_lt_iff_lt_mul hp).2 (by omega)
   omega
  rw[h2,decide_eq_true g];rfl
 ·rw[Nat.div_eq_of_lt (by omega),decide_eq_false g];rfl
theorem neg_mask (w a:Nat) (h0:0<a) (ha:a<2^w) (hw:w≤64):andU (IntKind.u64.wrap (0-(a:Int))) ((maskN w:Nat):Int)=((2^w-a:Nat):Int):=by
 have hp:2^w≤2^64:=Nat.pow_le_pow_right (by decide) hw
 have e1:IntKind.u64.wrap (0-(a:Int))=((18446744073709551616-a:Nat):Int):=by rw[wu64_mod];omega
 rw[e1,and_mask _ _ (by omega) hw]
 have hd:2^64=2^w*2^(64-w):=by rw[←Nat.pow_add];congr 1;omega
 have hq:0<2^(64-w):=Nat.two_pow_pos _
 have e2:18446744073709551616-a=(2^w-a)+2^w*(2^(64-w)-1):=by
  rw[Nat.mul_sub,Nat.mul_one,←hd]
  omega
 rw[e2,Nat.add_mul_mod_self_left,Nat.mod_eq_of_lt (by omega)]
set_option maxRecDepth 100000 in
theorem call27 {s:List UInt8}{w:Nat}{sg:Bool}(ht:tyR s=(0,(w:Int),sg)) (hw:w≤64) (hs:sg=true→1≤w) (a:Nat) (ha:a<18446744073709551616) (m:IM) :
  cw (.f 27) [.str s,.int .u64 (a:Int)] m=some (if a<2^w then .tup [.str (txtZ (valT w sg a)),.int .i64 0] else .tup [.str [],.int .i64 3],m):=by
 have h59:=call59 s m
 rw[ht] at h59
 have c59:=fun (R:Type) (K:IV→IM→Option R)=>callC_cw h59 (by rfl) K
 have c62:=fun (R:Type) (K:IV→IM→Option R)=>callC_cw (call62 w hw m) (by rfl) K
 have c61:=fun (b:Bool) (e:Int) (R:Type) (K:IV→IM→Option R)=>callC_cw (call61 b e m) (by rfl) K
 have c60:=fun (a b:Int) (R:Type) (K:IV→IM→Option R)=>callC_cw (call60 a b m) (by rfl) K
 have hz:(andnU (a:Int) ((maskN w:Nat):Int) != 0)=!decide (a<2^w):=congrArg not (andNot_z a w ha hw)
 apply F27_call
 simp only[F27,go_sem,c59,c62,hz,c61,c60]
 by_cases g:a<2^w
 ·have c63:=fun (R:Type) (K:IV→IM→Option R)=>callC_cw (call63 a ha m) (by rfl) K
  rw[decide_eq_true g,if_pos g]
  simp only[Bool.not_true,Bool.false_eq_true,if_false,bne_self_eq_false,if_true]
  cases sg with
  |false =>
   have e:txtZ (valT w false a)=decN a:=by
    rw[show valT w false a=(a:Int) from rfl]
    unfold txtZ
    rw[if_neg (by omega)];rfl
   simp only[C27_c0,go_sem,c63,Bool.false_eq_true,if_false,if_true,e]
   exact settle_id rfl
  |true =>
   have h1:=hs rfl
   have e1:IntKind.i64.wrap ((w:Int)-1)=((w-1:Nat):Int):=by rw[w64 (by omega) (by omega)];omega
   simp only[C27_c0,go_sem,e1,evC_of (shr_ev a (w-1) (by omega)),top_bit w a h1 g,if_true]
   have cw2:((2:Int)^w)=((2^w:Nat):Int):=by norm_cast
   by_cases q:2^(w-1)≤a
   ·have hp:0<2^(w-1):=Nat.two_pow_pos _
    have hp64:2^w≤2^64:=Nat.pow_le_pow_right (by decide) hw
    have hm:=neg_mask w a (by omega) g hw
    have hlt:2^w-a<18446744073709551616:=by omega
    have c63':=fun (R:Type) (K:IV→IM→Option R)=>callC_cw (call63 (2^w-a) hlt m) (by rfl) K
    have e:txtZ (valT w true a)=[45]++decN (2^w-a):=by
     rw[show valT w true a=svalN w a from rfl]
     unfold txtZ svalN
     rw[if_neg (show ¬a<2^(w-1) by omega),cw2,if_pos (show ((a:Int)-((2^w:Nat):Int))<0 by omega),show ((a:Int)-((2^w:Nat):Int)).natAbs=2^w-a by omega];rfl
    have hl:=(decN_len (2^w-a) hlt).2
    simp only[decide_eq_true q,if_true,c62,go_sem,hm,c63',evC_of (add_str (a:=[45]) (b:=decN (2^w-a)) (by simp;omega)),e]
    exact settle_id rfl
   ·have e:txtZ (valT w true a)=decN a:=by
     rw[show valT w true a=svalN w a from rfl]
     unfold txtZ svalN
     rw[if_pos (show a<2^(w-1) by omega),if_neg (show ¬(a:Int)<0 by omega)];rfl
    simp only[decide_eq_false q,Bool.false_eq_true,if_false,c63,go_sem,e]
    exact settle_id rfl
 ·rw[decide_eq_false g,if_neg g]
  have c3:((3:Int) != 0)=true:=rfl
  simp only[Bool.not_false,if_true,c3]
  exact settle_id rfl
def cutM (s:List UInt8):List UInt8×Bool:=if s.head?=some 45 then (s.tail,true) else (s,false)
theorem call198 (s:List UInt8) (hl:s.length≤1000) (m:IM):cw (.f 198) [.str s,.str [45]] m=some (.bool (decide (s.head?=some 45)),m):=by
 apply F198_call
 cases s with
 |nil =>
  have c1:decide (((([]:List UInt8).length:Nat):Int)≥(([45]:List UInt8).length:Int))=false:=rfl
  unfold F198 C198_c0
  rw[c1]
  simp only[go_sem,Bool.false_eq_true,if_false,if_true]
  rfl
 |cons c r =>
  have c1:decide ((((c::r).length:Nat):Int)≥(([45]:List UInt8).length:Int))=true:=by
   apply decide_eq_true;simp only[List.length_cons,List.length_nil];omega
  have e:POp.ev (.sliceStr false true) [.str (c::r),.int .i64 (([45]:List UInt8).length:Int)]=some (.str [c]):=by
   have c3:(1:Int)≤(r.length:Int)+1:=by omega
   show POp.ev (.sliceStr false true) [.str (c::r),.int .i64 ((1:Nat):Int)]=_
   simp[POp.ev,loHi,bnds,bnd,c3]
  have hb:(([c]:List UInt8)==[45])=decide ((c::r).head?=some 45):=by
   simp only[List.head?_cons,Option.some.injEq]
   by_cases g:c=45
   ·subst g;rfl
   ·rw[decide_eq_false g];simpa using g
  simp only[F198,C198_c0,go_sem,c1,if_true,evC_of e,hb]
theorem call164 (s:List UInt8) (hl:s.length≤1000) (m:IM):cw (.f 164) [.str s,.str [45]] m=some (.tup [.str (cutM s).1,.bool (cutM s).2],m):=by
 have c:=fun (R:Type) (K:IV→IM→Option R)=>callC_cw (call198 s hl m) (by rfl) K
 apply F164_call
 unfold cutM
 by_cases g:s.head?=some 45
 ·rw[decide_eq_true g] at c
  cases s with
  |nil=>cases g
  |cons x r =>
   have c3:(1:Int)≤(r.length:Int)+1:=by omega
   have e:POp.ev (.sliceStr true false) [.str (x::r),.int .i64 (([45]:List UInt8).length:Int)]=some (.str r):=by
    show POp.ev (.sliceStr true false) [.str (x::r),.int .i64 ((1:Nat):Int)]=_
    simp[POp.ev,loHi,bnds,bnd,c3]
   rw[if_pos g]
   simp only[F164,c,go_sem,Bool.not_true,Bool.false_eq_true,if_false,evC_of e,List.tail_cons]
   exact settle_id rfl
 ·rw[decide_eq_false g] at c
  rw[if_neg g]
  simp only[F164,c,go_sem,Bool.not_false,if_true]
  exact settle_id rfl
theorem call122 (s:List UInt8) (hl:s.length≤1000) (m:IM):cw (.f 122) [.str s,.str [45]] m=some (.tup [.str (cutM s).1,.bool (cutM s).2],m):=by
 have c:=fun (R:Type) (K:IV→IM→Option R)=>callC_cw (call164 s hl m) (by rfl) K
 apply F122_call
 simp only[F122,c,go_sem]
 exact settle_id rfl
theorem digsB_app:∀(a b:List UInt8),digsB (a++b)=(digsB a&&digsB b)
 |[],b=>by simp[digsB]
 |c::a,b=>by rw[List.cons_append,digsB,digsB,digsB_app a b,Bool.and_assoc]
theorem digB_dg (d:Nat) (h:d<10):digB (UInt8.ofNat (48+d))=true:=by
 unfold digB
 rw[dg_val d h,Nat.ble_eq_true_of_le (by omega),Nat.ble_eq_true_of_le (by omega)];rfl
theorem digsB_digN:∀k n,digsB (digN k n)=true
 |0,_=>rfl
 |k+1,n=>by rw[digN,digsB_app,digsB_digN k,digsB,digsB,digB_dg _ (Nat.mod_lt _ (by decide))];rfl
theorem decN_hd (n:Nat) (h0:n≠0) (h:n<18446744073709551616):∃d r,decN n=UInt8.ofNat (48+d)::r∧1≤d∧d≤9:=by
 obtain⟨n1,n2,n3,n4⟩:=nd_spec (d:=n) (by omega) h
 unfold decN
 rw[if_neg h0]
 have e:ndB n=(ndB n-1)+1:=by omega
 rw[e] at n4 ⊢
 exact digN_hd (ndB n-1) n n3 n4
theorem decN_num (n:Nat) (h:n<18446744073709551616):isNumB (decN n)=true:=by
 by_cases h0:n=0
 ·subst h0;rfl
 ·obtain⟨d,r,e,d1,d2⟩:=decN_hd n h0 h
  have hd:digsB (decN n)=true:=by unfold decN;rw[if_neg h0];exact digsB_digN _ _
  unfold isNumB
  rw[hd,e]
  have hne:(UInt8.ofNat (48+d))≠48:=by
   intro q
   have:=congrArg UInt8.toNat q
   rw[dg_val d (by omega)] at this
   have e48:(48:UInt8).toNat=48:=rfl
   omega
  have:decide ((UInt8.ofNat (48+d)::r).head?≠some 48)=true:=decide_eq_true (by simpa using hne)
  rw[this]
  simp
theorem decN_ne48 (n:Nat) (h0:n≠0) (h:n<18446744073709551616):(decN n==[48])=false:=by
 obtain⟨d,r,e,d1,d2⟩:=decN_hd n h0 h
 rw[e]
 have hne:(UInt8.ofNat (48+d))≠48:=by
  intro q
  have:=congrArg UInt8.toNat q
  rw[dg_val d (by omega)] at this
  have e48:(48:UInt8).toNat=48:=rfl
  omega
 exact beq_eq_false_iff_ne.2 (fun q=>hne (List.cons.inj q).1)
theorem cut_txt (z:Int) (h:z.natAbs<18446744073709551616):cutM (txtZ z)=(decN z.natAbs,decide (z<0)):=by
 unfold txtZ cutM
 by_cases g:z<0
 ·rw[if_pos g,decide_eq_true g];rfl
 ·rw[if_neg g,decide_eq_false g]
  by_cases h0:z.natAbs=0
  ·rw[h0];rfl
  ·obtain⟨d,r,e,d1,d2⟩:=decN_hd _ h0 h
   rw[e,if_neg]
   intro q
   simp only[List.head?_cons,Option.some.injEq] at q
   have:=congrArg UInt8.toNat q
   rw[dg_val d (by omega)] at this
   have e45:(45:UInt8).toNat=45:=rfl
   omega
theorem txt_len (z:Int) (h:z.natAbs<18446744073709551616):(txtZ z).length≤21:=by
 have:=(decN_len z.natAbs h).2
 unfold txtZ
 split
 ·rw[List.length_cons];omega
 ·omega
theorem call121 (z:Int) (h:z.natAbs<18446744073709551616) (m:IM):cw (.f 121) [.str (txtZ z)] m=some (.int .i64 0,m):=by
 have hl:=txt_len z h
 have h122:=call122 (txtZ z) (by omega) m
 rw[cut_txt z h] at h122
 have c122:=fun (R:Type) (K:IV→IM→Option R)=>callC_cw h122 (by rfl) K
 have h129:=call129 (decN z.natAbs) m
 rw[decN_num _ h] at h129
 have c129:=fun (R:Type) (K:IV→IM→Option R)=>callC_cw h129 (by rfl) K
 have c61:=fun (b:Bool) (e:Int) (R:Type) (K:IV→IM→Option R)=>callC_cw (call61 b e m) (by rfl) K
 have c60:=fun (a b:Int) (R:Type) (K:IV→IM→Option R)=>callC_cw (call60 a b m) (by rfl) K
 have hl2:=(decN_len z.natAbs h).2
 have c100:decide (((decN z.natAbs).length:Int)>100)=false:=decide_eq_false (by omega)
 apply F121_call
 by_cases g:z<0
 ·rw[decide_eq_true g] at c122
  have h48:=decN_ne48 z.natAbs (by omega) h
  simp only[F121,c122,go_sem,C121_c0,c129,Bool.not_true,Bool.false_eq_true,if_false,if_true,h48,c61,c60,c100]
 ·rw[decide_eq_false g] at c122
  simp only[F121,c122,go_sem,C121_c0,c129,Bool.not_true,Bool.false_eq_true,if_false,if_true,c61,c60,c100]
end Go.Idl
namespace Go.Idl
attribute [local go_sem] oA gA vA wA nA fA dA eA oV oW oN oD oF IFn.call ICode.run runOps IOp.run IOp.run0 gate IK.ok addrOK appOK OTag.hits IK.run Arg.rd look lookL rdAll POp.ev binEv bAdd bSub bMul bQuo bRem bLss bLeq bGtr bGeq bEql bNeq binStr shl6 unEv isShift St.put lkSlot lkL lkB lkC frc_eq frcV_eq IK.link slotC slotV St.drop St.capAt St.owner linkOf mkEnv retsOf settle0 IV.refsDeep IV.refsDeep.go IV.refs IV.refs.go refsAll IV.plain callI hideIds hideM unhideM IV.cells IV.isU IV.isL fillI repl over partI cut eqS byteVals bnd bnds loHi fold2 min2I max2I srcOf bytesCells zipCap newL newG storeI overCap capSl loadI cellsAt uqB loopW_lc St.head headE headB capNil capsL
def tk (m m':IM):IM:=⟨m'.bs.take m.size,m'.esc⟩
def settleY (m m':IM) (v:IV):Option (IV×IM):=settle m m' v
theorem tk_mk (a b:List BObj) (e e':Nat):tk ⟨a,e⟩ ⟨b,e'⟩=⟨b.take a.length,e'⟩:=rfl
theorem settleG {m m':IM}{v:IV}:settle m m' v=if v.refsDeep=some 0∧m'.esc=m.esc then some (v,tk m m') else settleY m m' v:=by
 split
 ·rename_i h
  unfold settle tk
  simp[h.1,h.2,frc_eq]
 ·rfl
def nlU (l:List Nat):IV:=match l with
 |[]=>.nilSlice
 |l=>slU l
def capU (l:List Nat):Cap:=match l with
 |[]=>.any
 |_=>.own 1
def Pp (neg:Bool) (l:List Nat) (tm:Env) (b j:Nat):IM:=⟨[.cells [.bool neg,nlU l] [.any,capU l],.loop b 162 0 tm j],0⟩
theorem y162n (neg:Bool) (tm:Env) (h5:look tm 5=some (.pB 0 0,.any)) (s:List UInt8) (n:Nat) (h:atoB 0 s=some n) (h0:s≠[]) (hl:s.length≤9) (hn:n<1000000000) :
  cw (.y 1) [.str s] (Pp neg [] tm 0 0)=some (.bool true,Pp neg [n] tm 0 0):=by
 have h130:=call130 s n h h0 (by omega) (⟨[.cells [.bool neg,.nilSlice] [.any,.any],.loop 2 162 0 tm 0],0⟩)
 have hm:4≤maxLenI:=by decide
 have w:IntKind.u32.wrap (n:Int)=(n:Int):=wu32 (by omega) (by omega)
 unfold cw at h130
 unfold cw;rw[callW_y (fn:=162) (site:=0) (r:=r162_0) (bz:=0) (j:=0) (tm:=tm) rfl rfl]
 simp[r162_0,IRnd.call,setAll,Pp,go_sem,IM.get,IM.put,settleG,tk_mk,jnum,h5,h130,w,slU,nlU,capU,hm]
theorem y162s (neg:Bool) (tm:Env) (h5:look tm 5=some (.pB 0 0,.any)) (s:List UInt8) (n:Nat) (h:atoB 0 s=some n) (h0:s≠[]) (hl:s.length≤9) (hn:n<1000000000) (x:Nat) (l:List Nat) (hll:(x::l).length≤1000) :
  cw (.y 1) [.str s] (Pp neg (x::l) tm 0 0)=some (.bool true,Pp neg (x::l++[n]) tm 0 0):=by
 have h130:=call130 s n h h0 (by omega) (⟨[.cells [.bool neg,slU (x::l)] [.any,.own 1],.loop 2 162 0 tm 0],0⟩)
 have hm:(l.length+1+1)*4≤maxLenI:=Nat.le_trans (show (l.length+1+1)*4≤4004 by simp only[List.length_cons] at hll;omega) (by decide)
 have w:IntKind.u32.wrap (n:Int)=(n:Int):=wu32 (by omega) (by omega)
 unfold cw at h130
 simp only[slU,List.map_cons,List.length_cons] at h130
 unfold cw;rw[callW_y (fn:=162) (site:=0) (r:=r162_0) (bz:=0) (j:=0) (tm:=tm) rfl rfl]
 simp[r162_0,IRnd.call,setAll,Pp,go_sem,IM.get,IM.put,settleG,tk_mk,jnum,h5,h130,w,slU,nlU,capU,hm]
end Go.Idl
namespace Go.Idl
attribute [local go_sem] uV_cons uI_cons gI gS iteC_if grd_if asI_mk asB_mk asS_mk asA_mk asT_mk asP_mk asP0_mk unc_cons unn_nil unb_cons unbn_nil asC_mk asIt_mk nilV_nil exC_if bindX_mk bindX_none refsC_nil refsC_cons plainC_nil plainC_cons ldP_pI ldP_pB nxt_inl nxt_inr nxt_if rA_nil rA_cons rD_of rD_int rD_bool rD_str rD_agg rD_tup go_nil go_cons elR_agg elR_int elR_bool elR_str elR_of refs_int refs_bool refs_str refs_nil refs_sl settle_id settle_set
theorem digsB_take (n:Nat) {d:List UInt8}(h:digsB d=true):digsB (d.take n)=true:=by
 rw[←List.take_append_drop n d,digsB_app,Bool.and_eq_true] at h
 exact h.1
theorem digsB_drop (n:Nat) {d:List UInt8}(h:digsB d=true):digsB (d.drop n)=true:=by
 rw[←List.take_append_drop n d,digsB_app,Bool.and_eq_true] at h
 exact h.2
theorem nlU_app (neg:Bool) (tm:Env) (h5:look tm 5=some (.pB 0 0,.any)) (s:List UInt8) (n:Nat) (h:atoB 0 s=some n) (h0:s≠[]) (hl:s.length≤9) (hn:n<1000000000) (l:List Nat) (hll:l.length≤1000) :
  cw (.y 1) [.str s] (Pp neg l tm 0 0)=some (.bool true,Pp neg (l++[n]) tm 0 0):=by
 cases l with
 |nil=>exact y162n neg tm h5 s n h h0 hl hn
 |cons x r=>exact y162s neg tm h5 s n h h0 hl hn x r hll
theorem loop223 (neg:Bool) (tm:Env) (h5:look tm 5=some (.pB 0 0,.any)) (d:List UInt8) (hd:digsB d=true) (hdl:d.length≤1000):∀(k:Nat) (x:Int) (l:List Nat),x≤9*(k:Int)→x≤d.length→-9≤x→l.length+k≤1000 →
  L223_0 (.yld 1) (.pI [.str d] 0) x (Pp neg l tm 0 0)=some (.exit 0,[],[],Pp neg (l++limS k (d.take x.toNat)) tm 0 0):=by
 intro k
 induction k with
 |zero =>
  intro x l hx _ _ _
  have c:decide (x>0)=false:=decide_eq_false (by omega)
  rw[L223_0_eq]
  unfold B223_0
  rw[c,iteC_if,if_neg (by decide),nxt_inr,limS,List.append_nil]
 |succ k ih =>
  intro x l hx hxl hx9 hlk
  by_cases g:x>0
  ·have c:decide (x>0)=true:=decide_eq_true g
   obtain⟨e,rfl⟩:=Int.eq_ofNat_of_zero_le (show 0≤x by omega)
   have we:IntKind.i64.wrap ((e:Int)-9)=(e:Int)-9:=w64 (by omega) (by omega)
   have lo:(if 0<(e:Int)-9 then (e:Int)-9 else 0)=((e-9:Nat):Int):=by split<;>omega
   have hs:POp.ev (.sliceStr true true) [.str d,.int .i64 ((e-9:Nat):Int),.int .i64 (e:Int)]=some (.str ((d.take e).drop (e-9))):=by
    have c1:(e:Int)≤(d.length:Int):=by omega
    have c2:(0:Int)≤(e:Int):=by omega
    have c3:((e-9:Nat):Int)≤(e:Int):=by omega
    have c4:(0:Int)≤((e-9:Nat):Int):=by omega
    have c5:e-9≤e:=by omega
    have c6:e≤d.length:=by omega
    simp[POp.ev,loHi,bnds,bnd,c6,List.drop_take]
   have hp:=digsB_drop (e-9) (digsB_take e hd)
   have hpl:((d.take e).drop (e-9)).length=e-(e-9):=by rw[List.length_drop,List.length_take];omega
   obtain⟨n,hn1,hn2⟩:=atoB_digs _ 0 hp
   have hn3:n<1000000000:=by
    have:(10:Nat)^((d.take e).drop (e-9)).length≤10^9:=Nat.pow_le_pow_right (by decide) (by omega)
    omega
   have hne:(d.take e).drop (e-9)≠[]:=by intro q;rw[q] at hpl;simp only[List.length_nil] at hpl;omega
   have hy:=nlU_app neg tm h5 _ n hn1 hne (by omega) hn3 l (by omega)
   have cy:=fun (R:Type) (K:IV→IM→Option R)=>callC_cw hy (by rfl) K
   have cv:∀(R:Type) (vs:List IV) (m:IM) (K:IV→IM→Option R),callVC cw (.yld 1) vs [] m K=callC cw (.y 1) vs [] m K:=fun _ _ _ _=>rfl
   have ih':=ih ((e:Int)-9) (l++[n]) (by omega) (by omega) (by omega) (by rw[List.length_append,List.length_singleton];omega)
   have k0:=fun (R:Type) (K:IV→Option R)=>cutC_false (cs:=[.str d]) (off:=0) (n:=1) (v:=.str d) rfl K
   have kf:∀(R:Type) (X:Option R),keepC (.yld 1) [] X=X:=fun _ _=>rfl
   have kp:∀(R:Type) (X:Option R),keepC (.pI [.str d] 0) [] X=X:=fun _ _=>rfl
   have hl1:limS (k+1) (d.take e)=n::limS k (d.take ((e:Int)-9).toNat):=by
    have hel:(d.take e).length=e:=by rw[List.length_take];omega
    have ht:(d.take e).take (e-9)=d.take ((e:Int)-9).toNat:=by
     rw[List.take_take,Nat.min_eq_left (by omega)];congr 1;omega
    have hne2:d.take e≠[]:=by intro q;rw[q] at hel;simp only[List.length_nil] at hel;omega
    rw[limS,if_neg hne2,hel,hn1,ht];rfl
   rw[Int.toNat_natCast,hl1,L223_0_eq]
   unfold B223_0
   rw[c,iteC_if,if_pos rfl,ldP_pI,k0,asS_mk,we,lo,evC_of hs,asS_mk,cv,cy,asB_mk]
   rw[show (!true)=false from rfl,iteC_if,if_neg (by decide),kf,kp,nxt_inl]
   refine Eq.trans ih' ?_
   rw[List.append_assoc];rfl
  ·have c:decide (x>0)=false:=decide_eq_false g
   have ht:d.take x.toNat=[]:=by rw[show x.toNat=0 by omega];rfl
   rw[L223_0_eq,ht,limS,if_pos rfl,List.append_nil]
   unfold B223_0
   rw[c,iteC_if,if_neg (by decide),nxt_inr]
theorem call223 (neg:Bool) (tm:Env) (h5:look tm 5=some (.pB 0 0,.any)) (d:List UInt8) (hd:digsB d=true) (hdl:d.length≤27) :
  cw (.f 223) [.yld 1,.pI [.str d] 0] (Pp neg [] tm 0 0)=some (.tup [],Pp neg (limS 3 d) tm 0 0):=by
 have hL:=loop223 neg tm h5 d hd (by omega) 3 d.length [] (by omega) (by omega) (by omega) (by simp)
 rw[Int.toNat_natCast,List.take_of_length_le (Nat.le_refl _),List.nil_append] at hL
 have hL:L223_0 (.yld 1) (.pI [.str d] 0) d.length (Pp neg [] tm 0 0)=_:=hL
 have k0:=fun (R:Type) (K:IV→Option R)=>cutC_false (cs:=[.str d]) (off:=0) (n:=1) (v:=.str d) rfl K
 have kf:∀(R:Type) (X:Option R),keepC (.yld 1) [] X=X:=fun _ _=>rfl
 have kp:∀(R:Type) (X:Option R),keepC (.pI [.str d] 0) [] X=X:=fun _ _=>rfl
 apply F223_call
 unfold F223
 rw[ldP_pI,k0,asS_mk,kf,kp,hL,bindX_mk,exC_if,if_pos rfl,unn_nil,unbn_nil]
 exact settle_same rfl rfl rfl
theorem call195 (s:List UInt8) (m:IM):cw (.f 195) [.str s] m=some (.func 223 [] [.pI [.str s] 0],m):=by
 apply F195_call
 unfold F195
 exact settle_id rfl
theorem call196 {V:IV}{l:List Nat}(n:Bool) (hV:SlU V l) (hn:l.length≤1000) (m:IM):∃V',cw (.f 196) [.agg [.bool n,V]] m=some (.agg [.bool (n&&decide (trimZ l≠[])),V'],m)∧SlU V' (trimZ l):=by
 obtain⟨V',h,hV'⟩:=call224 hV hn m
 refine⟨V',?_,hV'⟩
 have c:=fun (R:Type) (K:IV→IM→Option R)=>callC_cw h (by rcases hV with ⟨rfl,_⟩ | rfl<;>rfl) K
 have r1:=fun (R:Type) (X:Option R)=>refC_of (R:=R) hV.refs X
 have r2:=fun (R:Type) (X:Option R)=>refC_of (R:=R) hV'.refs X
 have o2:∀(R:Type) (X:Option R),oneC V' X=X:=by rcases hV' with ⟨rfl,_⟩ | rfl<;>exact fun _ _=>rfl
 have hq:decide (((trimZ l).length:Int)>0)=decide (trimZ l≠[]):=by
  cases trimZ l with
  |nil=>rfl
  |cons x r=>rw[decide_eq_true (by rw[List.length_cons];omega),decide_eq_true (by simp)]
 have fin:∀b:Bool,settle m m (.agg [.bool b,V'])=some (.agg [.bool b,V'],m):=by
  intro b
  rcases hV' with ⟨rfl,_⟩ | rfl<;>exact settle_id rfl
 apply F196_call
 cases n with
 |true=>simp only[F196,C196_c0,go_sem,r1,c,o2,r2,evC_of hV'.len,hq,Bool.true_and,if_true,fin]
 |false=>simp only[F196,C196_c0,go_sem,r1,c,o2,r2,Bool.false_and,Bool.false_eq_true,if_false,if_true,fin]
end Go.Idl
namespace Go.Idl
attribute [local go_sem] oA gA vA wA nA fA dA eA oV oW oN oD oF IFn.call ICode.run runOps IOp.run IOp.run0 gate IK.ok addrOK appOK OTag.hits IK.run Arg.rd look lookL rdAll POp.ev binEv bAdd bSub bMul bQuo bRem bLss bLeq bGtr bGeq bEql bNeq binStr shl6 unEv isShift St.put lkSlot lkL lkB lkC frc_eq frcV_eq IK.link slotC slotV St.drop St.capAt St.owner linkOf mkEnv retsOf settle0 IV.refsDeep IV.refsDeep.go IV.refs IV.refs.go refsAll IV.plain callI hideIds hideM unhideM IV.cells IV.isU IV.isL fillI repl over partI cut eqS byteVals bnd bnds loHi fold2 min2I max2I srcOf bytesCells zipCap newL newG storeI overCap capSl loadI cellsAt uqB loopW_lc St.head headE headB capNil capsL
def limZ (z:Int):List Nat:=trimZ (limS 3 (decN z.natAbs))
theorem limZ_val (z:Int) (h:z.natAbs<18446744073709551616):limV (limZ z)=z.natAbs:=by
 have hl:=(decN_len z.natAbs h).2
 unfold limZ
 rw[trimZ_val,limS_val 3 _ z.natAbs (by omega) (atoB_decN _ h)]
theorem limZ_can (z:Int):canZ (limZ z):=limbs_can 3 _
theorem limZ_ne (z:Int) (h:z.natAbs<18446744073709551616) (hz:z≠0):limZ z≠[]:=by
 intro e
 have:=limZ_val z h
 rw[e] at this
 simp only[limV] at this
 omega
theorem limZ_ex (z:Int) (h:z.natAbs<18446744073709551616):exZ (decide (z<0)) (limZ z)=z:=by
 unfold exZ
 rw[limZ_val z h]
 by_cases g:z<0
 ·rw[decide_eq_true g,if_pos rfl];omega
 ·rw[decide_eq_false g,if_neg (by decide)];omega
theorem limS_len:∀(k:Nat) (s:List UInt8),(limS k s).length≤k:=by
 intro k
 induction k with
 |zero=>intro s;exact Nat.le_refl _
 |succ k ih =>
  intro s
  rw[limS]
  split
  ·exact Nat.zero_le _
  ·rw[List.length_cons];have:=ih (s.take (s.length-9));omega
theorem limZ_len (z:Int) (h:z.natAbs<18446744073709551616):(limZ z).length≤1000:=by
 have key:∀l:List Nat,(trimZ l).length≤l.length:=by
  intro l
  induction l with
  |nil=>exact Nat.le_refl _
  |cons x r ih =>
   rw[trimZ]
   split
   ·split<;>simp
   ·rename_i y t e
    rw[e] at ih
    simp only[List.length_cons] at ih ⊢
    omega
 have a:=key (limS 3 (decN z.natAbs))
 have b:=limS_len 3 (decN z.natAbs)
 unfold limZ
 omega
theorem decN_digs (n:Nat) (h:n<18446744073709551616):digsB (decN n)=true:=isNumB_digs (decN_num n h)
theorem nlU_sl (l:List Nat):SlU (nlU l) l:=by
 cases l with
 |nil=>exact .inl ⟨rfl,rfl⟩
 |cons x r=>exact .inr rfl
theorem f162:tab.fns 162=some i162:=by rfl
theorem p162:prims 162=none:=by rfl
def tm162 (s d:List UInt8) (neg:Bool):Env:=[(17,.func 223 [] [.pI [.str d] 0],.any),(16,.str d,.any),(5,.pB 0 0,.any),(15,.agg [.bool neg,.nilSlice],.any),(14,.bool neg,.any),(4,.bool neg,.any),(3,.str d,.any),(13,.bool neg,.any),(12,.str d,.any),(9,.tup [.str d,.bool neg],.any),(11,.tup [.str d,.bool neg],.any),(10,.str s,.any),(2,.undef,.any),(0,.str s,.any)]
theorem call162 (z:Int) (h:z.natAbs<18446744073709551616):∃V,cw (.f 162) [.str (txtZ z)] m0=some (.agg [.bool (decide (z<0)),V],m0)∧SlU V (limZ z):=by
 have hl:=txt_len z h
 have hl2:=(decN_len z.natAbs h).2
 have h122:=call122 (txtZ z) (by omega) m0
 rw[cut_txt z h] at h122
 have h195:=fun m=>call195 (decN z.natAbs) m
 have h223:=call223 (decide (z<0)) (tm162 (txtZ z) (decN z.natAbs) (decide (z<0))) rfl (decN z.natAbs) (decN_digs _ h) (by omega)
 have hlen:(limS 3 (decN z.natAbs)).length≤1000:=by have:=limS_len 3 (decN z.natAbs);omega
 have hb:(decide (z<0)&&decide (trimZ (limS 3 (decN z.natAbs))≠[]))=decide (z<0):=by
  by_cases g:z<0
  ·have:=limZ_ne z h (by omega)
   unfold limZ at this
   rw[decide_eq_true g,decide_eq_true this];rfl
  ·rw[decide_eq_false g];rfl
 unfold limZ
 generalize limS 3 (decN z.natAbs)=L at h223 hlen hb ⊢
 obtain⟨V,h196,hV⟩:=call196 (decide (z<0)) (nlU_sl L) hlen ⟨[.cells [.bool (decide (z<0)),nlU L] [.any,capU L],.none],0⟩
 rw[hb] at h196
 refine⟨V,?_,hV⟩
 unfold cw at h122 h195 h223 h196
 simp only[Pp,show nlU []=.nilSlice from rfl,show capU []=.any from rfl,tm162] at h223
 unfold cw;rw[callW_fn p162 f162]
 cases L with
 |nil =>
  simp only[show nlU []=.nilSlice from rfl,show capU []=.any from rfl] at h223 h196
  rcases hV with ⟨rfl,_⟩ | rfl
  ·simp[i162,go_sem,h122,h223,h195,h196,settleG,tk_mk,IM.push,IM.size,IM.get,IM.put,noL]
  ·simp only[slU] at h196
   simp[i162,go_sem,h122,h223,h195,h196,settleG,tk_mk,IM.push,IM.size,IM.get,IM.put,noL,slU]
 |cons x r =>
  simp only[show nlU (x::r)=slU (x::r) from rfl,show capU (x::r)=.own 1 from rfl,slU,List.map_cons,List.length_cons] at h223 h196
  rcases hV with ⟨rfl,_⟩ | rfl
  ·simp[i162,go_sem,h122,h223,h195,h196,settleG,tk_mk,IM.push,IM.size,IM.get,IM.put,noL]
  ·simp only[slU] at h196
   simp[i162,go_sem,h122,h223,h195,h196,settleG,tk_mk,IM.push,IM.size,IM.get,IM.put,noL,slU]
theorem bAndU (a b:Int):binInt .and .u64 a b=some (.int .u64 (andU a b)):=rfl
theorem horn_cons (x:Nat) (r:List Nat):horn (x::r)=(horn r*1000000000+x)%18446744073709551616:=by
 first | rfl | simp[horn]
theorem and_wrap (x:Int) (w:Nat) (hw:w≤64):andU (IntKind.u64.wrap x) ((maskN w:Nat):Int)=x%((2^w:Nat):Int):=by
 have h0:0≤x%18446744073709551616:=Int.emod_nonneg _ (by decide)
 have h1:x%18446744073709551616<18446744073709551616:=Int.emod_lt_of_pos _ (by decide)
 obtain⟨n,hn⟩:=Int.eq_ofNat_of_zero_le h0
 have hd:((2^w:Nat):Int) ∣ 18446744073709551616:=by
  have:(2^w:Nat) ∣ 2^64:=Nat.pow_dvd_pow 2 hw
  exact Int.natCast_dvd_natCast.2 this
 rw[wu64_mod,hn,and_mask n w (by omega) hw,←Int.emod_emod_of_dvd x hd,hn]
 rfl
def Pw (v:Int) (tm:Env) (b j:Nat):IM:=⟨[.cells [.int .u64 v] [.any],.loop b 120 0 tm j],0⟩
theorem y120' (tm:Env) (h5:look tm 5=some (.pB 0 0,.any)) (v x i v1 v2 x1:Int) (e1:IntKind.u64.wrap (v*1000000000)=v1) (ex:IntKind.u64.wrap x=x1) (e2:IntKind.u64.wrap (v1+x1)=v2) :
  cw (.y 1) [.int .i64 i,.int .u32 x] (Pw v tm 0 0)=some (.bool true,Pw v2 tm 0 0):=by
 unfold cw;rw[callW_y (fn:=120) (site:=0) (r:=r120_0) (bz:=0) (j:=0) (tm:=tm) rfl rfl]
 simp[r120_0,IRnd.call,setAll,Pw,go_sem,IM.get,IM.put,settleG,tk_mk,jnum,h5,e1,ex,e2]
theorem y120 (tm:Env) (h5:look tm 5=some (.pB 0 0,.any)) (v x:Nat) (i:Int) (hx:x<1000000000) :
  cw (.y 1) [.int .i64 i,.int .u32 (x:Int)] (Pw (v:Int) tm 0 0)=some (.bool true,Pw (((v*1000000000+x)%18446744073709551616:Nat):Int) tm 0 0) :=
 y120' tm h5 v x i (((v:Int)*1000000000)%18446744073709551616) _ x (wu64_mod _) (wu64 (by omega) (by omega)) (by rw[wu64_mod];omega)
theorem loop197 (tm:Env) (h5:look tm 5=some (.pB 0 0,.any)) {V:IV}{l:List Nat}(hV:SlU V l) (hl:l.length≤1000) (hk:limOk l):∀(k:Nat),k≤l.length →
  L197_0 (.yld 1) (.pI [V] 0) ((k:Int)-1) (Pw (horn (l.drop k):Nat) tm 0 0)=some (.exit 0,[],[],Pw (horn l:Nat) tm 0 0):=by
 intro k
 induction k with
 |zero =>
  intro _
  have c:decide (((0:Nat):Int)-1≥0)=false:=by decide
  rw[L197_0_eq]
  unfold B197_0
  rw[c,iteC_if,if_neg (by decide),nxt_inr,List.drop_zero]
 |succ k ih =>
  intro hk1
  have hi:k<l.length:=by omega
  have e0:(((k+1:Nat):Int)-1)=(k:Int):=by omega
  have c:decide ((k:Int)≥0)=true:=decide_eq_true (by omega)
  have e2:IntKind.i64.wrap ((k:Int)-1)=(k:Int)-1:=w64 (by omega) (by omega)
  have k0:=fun (R:Type) (K:IV→Option R)=>cutC_false (cs:=[V]) (off:=0) (n:=1) (v:=V) rfl K
  have kf:∀(R:Type) (X:Option R),keepC (.yld 1) [] X=X:=fun _ _=>rfl
  have kp:∀(R:Type) (X:Option R),keepC (.pI [V] 0) [] X=X:=fun _ _=>rfl
  have hy:=y120 tm h5 (horn (l.drop (k+1))) l[k] k (hk _ (List.getElem_mem hi))
  have cy:=fun (R:Type) (K:IV→IM→Option R)=>callC_cw hy (by rfl) K
  have cv:∀(R:Type) (vs:List IV) (m:IM) (K:IV→IM→Option R),callVC cw (.yld 1) vs [] m K=callC cw (.y 1) vs [] m K:=fun _ _ _ _=>rfl
  have ih':=ih (by omega)
  rw[e0,L197_0_eq]
  unfold B197_0
  rw[c,iteC_if,if_pos rfl,ldP_pI,k0,evC_of (hV.idx k hi),ldP_pI,get_slU l k hi,asI_mk,cv,cy,asB_mk]
  rw[show (!true)=false from rfl,iteC_if,if_neg (by decide),kf,kp,nxt_inl,e2,←horn_cons,←List.drop_eq_getElem_cons hi]
  exact ih'
theorem call197 (tm:Env) (h5:look tm 5=some (.pB 0 0,.any)) {V:IV}{l:List Nat}(hV:SlU V l) (hl:l.length≤1000) (hk:limOk l) :
  cw (.f 197) [.yld 1,.pI [V] 0] (Pw 0 tm 0 0)=some (.tup [],Pw (horn l:Nat) tm 0 0):=by
 have hL:=loop197 tm h5 hV hl hk l.length (Nat.le_refl _)
 rw[List.drop_length] at hL
 have e2:IntKind.i64.wrap ((l.length:Int)-1)=(l.length:Int)-1:=w64 (by omega) (by omega)
 have k0:=fun (R:Type) (K:IV→Option R)=>cutC_false (cs:=[V]) (off:=0) (n:=1) (v:=V) rfl K
 have kf:∀(R:Type) (X:Option R),keepC (.yld 1) [] X=X:=fun _ _=>rfl
 have kp:∀(R:Type) (X:Option R),keepC (.pI [V] 0) [] X=X:=fun _ _=>rfl
 have hL:L197_0 (.yld 1) (.pI [V] 0) ((l.length:Int)-1) (Pw 0 tm 0 0)=_:=hL
 apply F197_call
 unfold F197
 rw[ldP_pI,k0,evC_of hV.len,asI_mk,kf,kp,e2,hL,bindX_mk,exC_if,if_pos rfl,unn_nil,unbn_nil]
 exact settle_same rfl rfl rfl
theorem call163 {V:IV}{l:List Nat}(hV:SlU V l) (m:IM):cw (.f 163) [V] m=some (.func 197 [] [.pI [V] 0],m):=by
 apply F163_call
 unfold F163
 rcases hV with ⟨rfl,_⟩ | rfl<;>exact settle_id rfl
theorem f120:tab.fns 120=some i120:=by rfl
theorem p120:prims 120=none:=by rfl
def tm120 (w:Int) (sg neg:Bool) (V:IV):Env:=[(10,.func 197 [] [.pI [V] 0],.any),(9,V,.any),(8,.undef,.any),(5,.pB 0 0,.any),(4,.int .u64 0,.any),(3,.undef,.any),(2,.undef,.any),(0,.agg [.int .i64 w,.bool sg],.any),(1,.agg [.bool neg,V],.any)]
theorem call120 (z:Int) (h:z.natAbs<18446744073709551616) {V:IV}(hV:SlU V (limZ z)) (w:Nat) (sg:Bool) (hw:w≤64) :
  cw (.f 120) [.agg [.int .i64 (w:Int),.bool sg],.agg [.bool (decide (z<0)),V]] m0=some (.int .u64 (z%((2^w:Nat):Int)),m0):=by
 have hl:=limZ_len z h
 have hv:horn (limZ z)=z.natAbs:=by rw[horn_val,limZ_val z h,Nat.mod_eq_of_lt h]
 have h163:=fun m=>call163 hV m
 have h62:=fun m=>call62 w hw m
 have h197:=call197 (tm120 w sg (decide (z<0)) V) rfl hV hl (limZ_can z).1
 rw[hv] at h197
 have hN:z<0→andU (IntKind.u64.wrap (-(z.natAbs:Int))) ((maskN w:Nat):Int)=z%((2^w:Nat):Int):=by
  intro g
  rw[and_wrap _ w hw]
  congr 1
  omega
 have hP:¬z<0→andU (z.natAbs:Int) ((maskN w:Nat):Int)=z%((2^w:Nat):Int):=by
  intro g
  have:=and_wrap (z.natAbs:Int) w hw
  rw[wu64 (by omega) (by omega)] at this
  rw[this]
  congr 1
  omega
 unfold cw at h163 h62 h197
 simp only[Pw,tm120] at h197
 unfold cw;rw[callW_fn p120 f120]
 by_cases g:z<0
 ·have hN:=hN g
  generalize z%((2^w:Nat):Int)=R at hN
  rw[decide_eq_true g] at h197 ⊢
  rcases hV with ⟨rfl,hn⟩ | rfl
  ·simp[i120,go_sem,h163,h62,h197,bAndU,hN,settleG,tk_mk,IM.push,IM.size,IM.get,IM.put,noL]
  ·simp only[slU] at h163 h197
   simp[i120,go_sem,h163,h62,h197,bAndU,hN,settleG,tk_mk,IM.push,IM.size,IM.get,IM.put,noL,slU]
 ·have hP:=hP g
  generalize z%((2^w:Nat):Int)=R at hP
  rw[decide_eq_false g] at h197 ⊢
  rcases hV with ⟨rfl,hn⟩ | rfl
  ·simp[i120,go_sem,h163,h62,h197,bAndU,hP,settleG,tk_mk,IM.push,IM.size,IM.get,IM.put,noL]
  ·simp only[slU] at h163 h197
   simp[i120,go_sem,h163,h62,h197,bAndU,hP,settleG,tk_mk,IM.push,IM.size,IM.get,IM.put,noL,slU]
end Go.Idl
namespace Go.Idl
attribute [local go_sem] uV_cons uI_cons gI gS iteC_if grd_if asI_mk asB_mk asS_mk asA_mk asT_mk asP_mk asP0_mk unc_cons unn_nil unb_cons unbn_nil asC_mk asIt_mk nilV_nil exC_if bindX_mk bindX_none refsC_nil refsC_cons plainC_nil plainC_cons ldP_pI ldP_pB nxt_inl nxt_inr nxt_if rA_nil rA_cons rD_of rD_int rD_bool rD_str rD_agg rD_tup go_nil go_cons elR_agg elR_int elR_bool elR_str elR_of refs_int refs_bool refs_str refs_nil refs_sl settle_id settle_set
def loZ (w:Nat) (sg:Bool):Int:=if sg then -((2^(w-1):Nat):Int) else 0
def hiZ (w:Nat) (sg:Bool):Int:=if sg then ((2^(w-1)-1:Nat):Int) else ((2^w-1:Nat):Int)
theorem pw_lt (w:Nat) (hw:w≤64):2^w≤18446744073709551616:=Nat.pow_le_pow_right (by decide:2>0) hw
theorem pw1_lt (w:Nat) (hw:w≤64) (h1:1≤w):2^(w-1)≤9223372036854775808:=Nat.pow_le_pow_right (by decide:2>0) (show w-1≤63 by omega)
theorem lo_abs (w:Nat) (sg:Bool) (hw:w≤64) (hs:sg=true→1≤w):(loZ w sg).natAbs<18446744073709551616:=by
 unfold loZ
 cases sg with
 |true =>
  have:=pw1_lt w hw (hs rfl)
  show (-((2^(w-1):Nat):Int)).natAbs<_
  rw[Int.natAbs_neg,Int.natAbs_natCast]
  omega
 |false=>exact (show (0:Int).natAbs<18446744073709551616 by decide)
theorem hi_abs (w:Nat) (sg:Bool) (hw:w≤64) (hs:sg=true→1≤w):(hiZ w sg).natAbs<18446744073709551616:=by
 have hp:0<2^w:=Nat.two_pow_pos _
 unfold hiZ
 cases sg with
 |true=>have:=pw1_lt w hw (hs rfl);simp only[if_true];omega
 |false=>have:=pw_lt w hw;simp only[Bool.false_eq_true,if_false];omega
theorem shl_ev (k:Nat) (h:k≤63):POp.ev (.bin .shl) [.int .u64 1,.int .i64 (k:Int)]=some (.int .u64 ((2^k:Nat):Int)):=by
 have c:¬(k:Int)<0:=by omega
 have hp:2^k≤2^63:=Nat.pow_le_pow_right (by decide) h
 have e:IntKind.u64.wrap ((1:Int)*2^Nat.min k 64)=((2^k:Nat):Int):=by
  rw[show Nat.min k 64=k from Nat.min_eq_left (by omega),Int.one_mul]
  have:((2:Int)^k)=((2^k:Nat):Int):=by norm_cast
  rw[this]
  generalize 2^k=p at hp ⊢
  exact wu64 (by omega) (by omega)
 show (if (k:Int)<0 then none else some (IV.int .u64 (IntKind.u64.wrap ((1:Int)*2^Nat.min (k:Int).toNat 64))))=_
 rw[if_neg c,Int.toNat_natCast,e]
theorem txt_nat (n:Nat):txtZ (n:Int)=decN n:=by
 unfold txtZ
 rw[if_neg (by omega)];rfl
theorem txt_neg (n:Nat) (h:0<n):txtZ (-(n:Int))=45::decN n:=by
 unfold txtZ
 rw[if_pos (by omega),Int.natAbs_neg];rfl
theorem call193 (w:Nat) (sg:Bool) (hw:w≤64) (hs:sg=true→1≤w) (m:IM):cw (.f 193) [.agg [.int .i64 (w:Int),.bool sg]] m=some (.agg [.str (txtZ (loZ w sg)),.str (txtZ (hiZ w sg))],m):=by
 have hp:0<2^w:=Nat.two_pow_pos _
 have hp1:0<2^(w-1):=Nat.two_pow_pos _
 have hpw:=pw_lt w hw
 apply F193_call
 cases sg with
 |false =>
  have c62:=fun (R:Type) (K:IV→IM→Option R)=>callC_cw (call62 w hw m) (by rfl) K
  have c63:=fun (R:Type) (K:IV→IM→Option R)=>callC_cw (call63 (maskN w) (maskN_lt w hw) m) (by rfl) K
  have e1:txtZ (loZ w false)=[48]:=rfl
  have e2:txtZ (hiZ w false)=decN (maskN w):=txt_nat (2^w-1)
  rw[e1,e2]
  simp only[F193,go_sem,Bool.not_false,if_true,c62,c63]
  exact settle_id rfl
 |true =>
  have h1:=hs rfl
  have hp2:=pw1_lt w hw h1
  have w1:IntKind.i64.wrap ((w:Int)-1)=((w-1:Nat):Int):=by rw[w64 (by omega) (by omega)];omega
  have c62:=fun (R:Type) (K:IV→IM→Option R)=>callC_cw (call62 (w-1) (by omega) m) (by rfl) K
  have c63:=fun (R:Type) (K:IV→IM→Option R)=>callC_cw (call63 (maskN (w-1)) (maskN_lt _ (by omega)) m) (by rfl) K
  have c63':=fun (R:Type) (K:IV→IM→Option R)=>callC_cw (call63 (2^(w-1)) (by omega) m) (by rfl) K
  have e1:txtZ (loZ w true)=[45]++decN (2^(w-1)):=txt_neg (2^(w-1)) hp1
  have e2:txtZ (hiZ w true)=decN (maskN (w-1)):=txt_nat (2^(w-1)-1)
  have hl:=(decN_len (2^(w-1)) (by omega)).2
  rw[e1,e2]
  simp only[F193,go_sem,Bool.not_true,Bool.false_eq_true,if_false,w1,evC_of (shl_ev (w-1) (by omega)),c63',evC_of (add_str (a:=[45]) (b:=decN (2^(w-1))) (by simp;omega)),c62,c63]
  exact settle_id rfl
def nrZ (w:Nat) (sg:Bool) (z:Int):Int:=if z<loZ w sg then loZ w sg else if hiZ w sg<z then hiZ w sg else z
theorem cmp_lt (x y:Int):decide (cmpZ x y<0)=decide (x<y):=by
 unfold cmpZ
 by_cases h:x<y
 ·rw[if_pos h,decide_eq_true h];rfl
 ·rw[if_neg h,decide_eq_false h];split<;>rfl
theorem cmp_gt (x y:Int):decide (cmpZ x y>0)=decide (y<x):=by
 unfold cmpZ
 by_cases h:x<y
 ·rw[if_pos h,decide_eq_false (show ¬y<x by omega)];rfl
 ·rw[if_neg h]
  by_cases g:y<x
  ·rw[if_pos g,decide_eq_true g];rfl
  ·rw[if_neg g,decide_eq_false g];rfl
theorem cmp_ne (x y:Int):(cmpZ x y != 0)=decide (x≠y):=by
 unfold cmpZ
 by_cases h:x<y
 ·rw[if_pos h,decide_eq_true (show x≠y by omega)];rfl
 ·rw[if_neg h]
  by_cases g:y<x
  ·rw[if_pos g,decide_eq_true (show x≠y by omega)];rfl
  ·rw[if_neg g,decide_eq_false (show ¬x≠y by omega)];rfl
abbrev okZ (z:Int):Prop:=z.natAbs<18446744073709551616
theorem call161z {x y:Int}(hx:okZ x) (hy:okZ y) {V W:IV}(hV:SlU V (limZ x)) (hW:SlU W (limZ y)) (m:IM) :
  cw (.f 161) [.agg [.bool (decide (x<0)),V],.agg [.bool (decide (y<0)),W]] m=some (.int .i64 (cmpZ x y),m):=by
 have:=call161 (decide (x<0)) (decide (y<0)) hV hW (limZ_can x) (limZ_can y) (limZ_len x hx) (fun h=>limZ_ne x hx (by have:=of_decide_eq_true h;omega)) (fun h=>limZ_ne y hy (by have:=of_decide_eq_true h;omega)) m
 rwa [limZ_ex x hx,limZ_ex y hy] at this
theorem refs_ag (n:Bool) {V:IV}{l:List Nat}(hV:SlU V l) (v:IV) (hv:v=.agg [.bool n,V]):v.refsDeep=some 0:=by
 subst hv
 rcases hV with ⟨rfl,_⟩ | rfl<;>rfl
theorem call160 {z:Int}(hz:okZ z) {V:IV}(hV:SlU V (limZ z)) (w:Nat) (sg:Bool) (hw:w≤64) (hs:sg=true→1≤w) :
  ∃W,cw (.f 160) [.agg [.int .i64 (w:Int),.bool sg],.agg [.bool (decide (z<0)),V]] m0=some (.agg [.bool (decide (nrZ w sg z<0)),W],m0)∧SlU W (limZ (nrZ w sg z)):=by
 have hlo:=lo_abs w sg hw hs
 have hhi:=hi_abs w sg hw hs
 obtain⟨A,hA,sA⟩:=call162 (loZ w sg) hlo
 obtain⟨B,hB,sB⟩:=call162 (hiZ w sg) hhi
 have rr:∀{X:IV}{l:List Nat}(n:Bool) (Y:IV) (l':List Nat) (n':Bool),SlU X l→SlU Y l'→(refsAll ([IV.agg [.bool n,X],IV.agg [.bool n',Y]].flatMap IV.cells)).isSome=true:=by
  intro X l n Y l' n' h1 h2
  rcases h1 with ⟨rfl,_⟩ | rfl<;>rcases h2 with ⟨rfl,_⟩ | rfl<;>rfl
 have c193:=fun (R:Type) (K:IV→IM→Option R)=>callC_cw (call193 w sg hw hs m0) (by rfl) K
 have cA:=fun (R:Type) (K:IV→IM→Option R)=>callC_cw hA (by rfl) K
 have cB:=fun (R:Type) (K:IV→IM→Option R)=>callC_cw hB (by rfl) K
 have c1:=fun (R:Type) (K:IV→IM→Option R)=>callC_cw (call161z hz hlo hV sA m0) (rr _ _ _ _ hV sA) K
 have c2:=fun (R:Type) (K:IV→IM→Option R)=>callC_cw (call161z hz hhi hV sB m0) (rr _ _ _ _ hV sB) K
 have rV:=fun (R:Type) (X:Option R)=>refC_of (R:=R) hV.refs X
 have rA:=fun (R:Type) (X:Option R)=>refC_of (R:=R) sA.refs X
 have rB:=fun (R:Type) (X:Option R)=>refC_of (R:=R) sB.refs X
 by_cases g1:z<loZ w sg
 ·have e:nrZ w sg z=loZ w sg:=by unfold nrZ;rw[if_pos g1]
  rw[e]
  refine⟨A,?_,sA⟩
  apply F160_call
  simp only[F160,go_sem,rV,c193,cA,cB,rA,rB,c1,cmp_lt,decide_eq_true g1,if_true]
  exact settle_id (refs_ag _ sA _ rfl)
 ·by_cases g2:hiZ w sg<z
  ·have e:nrZ w sg z=hiZ w sg:=by unfold nrZ;rw[if_neg g1,if_pos g2]
   rw[e]
   refine⟨B,?_,sB⟩
   apply F160_call
   simp only[F160,go_sem,rV,c193,cA,cB,rA,rB,c1,cmp_lt,decide_eq_false g1,Bool.false_eq_true,if_false,c2,cmp_gt,decide_eq_true g2,if_true]
   exact settle_id (refs_ag _ sB _ rfl)
  ·have e:nrZ w sg z=z:=by unfold nrZ;rw[if_neg g1,if_neg g2]
   rw[e]
   refine⟨V,?_,hV⟩
   apply F160_call
   simp only[F160,go_sem,rV,c193,cA,cB,rA,rB,c1,cmp_lt,decide_eq_false g1,Bool.false_eq_true,if_false,c2,cmp_gt,decide_eq_false g2]
   exact settle_id (refs_ag _ hV _ rfl)
theorem call119 {s:List UInt8}{w:Nat}{sg:Bool}(ht:tyR s=(0,(w:Int),sg)) {z:Int}(hz:okZ z):∃V,cw (.f 119) [.str s,.str (txtZ z)] m0=some (.tup [.agg [.int .i64 (w:Int),.bool sg],.agg [.bool (decide (z<0)),V],.int .i64 0],m0)∧SlU V (limZ z):=by
 obtain⟨V,hA,sA⟩:=call162 z hz
 refine⟨V,?_,sA⟩
 have h59:=call59 s m0
 rw[ht] at h59
 have c59:=fun (R:Type) (K:IV→IM→Option R)=>callC_cw h59 (by rfl) K
 have c121:=fun (R:Type) (K:IV→IM→Option R)=>callC_cw (call121 z hz m0) (by rfl) K
 have c60:=fun (a b:Int) (R:Type) (K:IV→IM→Option R)=>callC_cw (call60 a b m0) (by rfl) K
 have cA:=fun (R:Type) (K:IV→IM→Option R)=>callC_cw hA (by rfl) K
 have rA:=fun (R:Type) (X:Option R)=>refC_of (R:=R) sA.refs X
 apply F119_call
 simp only[F119,go_sem,c59,c121,c60,cA,rA,if_true,bne_self_eq_false,Bool.false_eq_true,if_false]
 rcases sA with ⟨rfl,_⟩ | rfl<;>exact settle_id rfl
theorem call118 {s:List UInt8}{w:Nat}{sg:Bool}(ht:tyR s=(0,(w:Int),sg)) (hw:w≤64) (hs:sg=true→1≤w) {z:Int}(hz:okZ z) :
  cw (.f 118) [.str s,.str (txtZ z)] m0=some (if loZ w sg≤z∧z≤hiZ w sg then .tup [.int .u64 (z%((2^w:Nat):Int)),.int .i64 0] else .tup [.int .u64 0,.int .i64 35],m0):=by
 obtain⟨V,hA,sA⟩:=call119 ht hz
 obtain⟨W,hB,sB⟩:=call160 hz sA w sg hw hs
 have hn:okZ (nrZ w sg z):=by
  have h1:=lo_abs w sg hw hs
  have h2:=hi_abs w sg hw hs
  unfold nrZ okZ
  split
  ·exact h1
  ·split
   ·exact h2
   ·exact hz
 have rr:∀{X:IV}{l:List Nat}(n:Bool) (Y:IV) (l':List Nat) (n':Bool),SlU X l→SlU Y l'→(refsAll ([IV.agg [.bool n,X],IV.agg [.bool n',Y]].flatMap IV.cells)).isSome=true:=by
  intro X l n Y l' n' h1 h2
  rcases h1 with ⟨rfl,_⟩ | rfl<;>rcases h2 with ⟨rfl,_⟩ | rfl<;>rfl
 have r1:∀{X:IV}{l:List Nat}(n:Bool) (a:Int) (b:Bool),SlU X l→(refsAll ([IV.agg [.int .i64 a,.bool b],IV.agg [.bool n,X]].flatMap IV.cells)).isSome=true:=by
  intro X l n a b h1
  rcases h1 with ⟨rfl,_⟩ | rfl<;>rfl
 have cA:=fun (R:Type) (K:IV→IM→Option R)=>callC_cw hA (by rfl) K
 have cB:=fun (R:Type) (K:IV→IM→Option R)=>callC_cw hB (r1 _ _ _ sA) K
 have c161:=fun (R:Type) (K:IV→IM→Option R)=>callC_cw (call161z hn hz sB sA m0) (rr _ _ _ _ sB sA) K
 have c120:=fun (R:Type) (K:IV→IM→Option R)=>callC_cw (call120 z hz sA w sg hw) (r1 _ _ _ sA) K
 have rA:=fun (R:Type) (X:Option R)=>refC_of (R:=R) sA.refs X
 have rB:=fun (R:Type) (X:Option R)=>refC_of (R:=R) sB.refs X
 have hlh:loZ w sg≤hiZ w sg:=by
  have hp:0<2^w:=Nat.two_pow_pos _
  have hp1:0<2^(w-1):=Nat.two_pow_pos _
  unfold loZ hiZ
  cases sg<;>simp only[if_true,Bool.false_eq_true,if_false]<;>omega
 have hiff:nrZ w sg z≠z↔¬(loZ w sg≤z∧z≤hiZ w sg):=by
  unfold nrZ
  split
  ·omega
  ·split<;>omega
 apply F118_call
 by_cases g:loZ w sg≤z∧z≤hiZ w sg
 ·have gn:¬nrZ w sg z≠z:=fun q=>hiff.1 q g
  rw[if_pos g]
  simp only[F118,go_sem,cA,rA,bne_self_eq_false,Bool.false_eq_true,if_false,cB,rB,c161,cmp_ne,decide_eq_false gn,c120]
  exact settle_id rfl
 ·have gn:nrZ w sg z≠z:=hiff.2 g
  rw[if_neg g]
  simp only[F118,go_sem,cA,rA,bne_self_eq_false,Bool.false_eq_true,if_false,cB,rB,c161,cmp_ne,decide_eq_true gn,if_true]
  exact settle_id rfl
theorem call54 {s:List UInt8}{w:Nat}{sg:Bool}(ht:tyR s=(0,(w:Int),sg)) (hw:w≤64) {z:Int}(hz:okZ z) :
  cw (.f 54) [.str s,.str (txtZ z)] m0=some (.tup [.int .u64 (z%((2^w:Nat):Int)),.int .i64 0],m0):=by
 obtain⟨V,hA,sA⟩:=call119 ht hz
 have r1:∀{X:IV}{l:List Nat}(n:Bool) (a:Int) (b:Bool),SlU X l→(refsAll ([IV.agg [.int .i64 a,.bool b],IV.agg [.bool n,X]].flatMap IV.cells)).isSome=true:=by
  intro X l n a b h1
  rcases h1 with ⟨rfl,_⟩ | rfl<;>rfl
 have cA:=fun (R:Type) (K:IV→IM→Option R)=>callC_cw hA (by rfl) K
 have c120:=fun (R:Type) (K:IV→IM→Option R)=>callC_cw (call120 z hz sA w sg hw) (r1 _ _ _ sA) K
 have rA:=fun (R:Type) (X:Option R)=>refC_of (R:=R) sA.refs X
 apply F54_call
 simp only[F54,go_sem,cA,rA,bne_self_eq_false,Bool.false_eq_true,if_false,c120]
 exact settle_id rfl
theorem call5 (s:List UInt8) (m:IM):cw (.f 5) [.str s] m=some (.int .i64 (widR s).2,m):=by
 have c7:=fun (R:Type) (K:IV→IM→Option R)=>callC_cw (call7 s m) (by rfl) K
 apply F5_call
 simp only[F5,go_sem,c7]
theorem call19 (s:List UInt8) (x:Int) (m:IM):cw (.f 19) [.str s,.int .u64 x] m=some (.agg [.int .i64 (tyR s).2.1,.bool (tyR s).2.2,.str s,.int .u64 x],m):=by
 have c13:=fun (R:Type) (K:IV→IM→Option R)=>callC_cw (call13 s m) (by rfl) K
 apply F19_call
 simp only[F19,go_sem,c13]
 exact settle_id rfl
theorem call37 (w:Nat) (sg:Bool) (hw:w≤64) (m:IM):cw (.f 37) [.agg [.int .i64 (w:Int),.bool sg]] m=some (.int .u64 ((maskN w:Nat):Int),m):=by
 apply F37_call
 by_cases h:w=0
 ·subst h
  simp only[F37,go_sem]
  rfl
 ·have c:(((w:Nat):Int)==0)=false:=by
   have:((w:Nat):Int)≠0:=by omega
   simpa using this
  have w1:IntKind.i64.wrap (64-(w:Int))=((64-w:Nat):Int):=by rw[w64 (by omega) (by omega)];omega
  have hv:∀k:Nat,k<65→18446744073709551615/2^(64-k)=maskN k:=by
   have hall:((List.range 65).all fun k=>decide (18446744073709551615/2^(64-k)=maskN k))=true:=by decide +kernel
   intro k hk
   exact of_decide_eq_true (List.all_eq_true.1 hall k (List.mem_range.2 hk))
  have hs:=shr_ev 18446744073709551615 (64-w) (by omega)
  rw[hv w (by omega)] at hs
  have hs:POp.ev (.bin .shr) [.int .u64 18446744073709551615,.int .i64 ((64-w:Nat):Int)]=_:=hs
  simp only[F37,go_sem,c,Bool.false_eq_true,if_false,w1,evC_of hs]
theorem fl_ty {s:List UInt8}(h:tyOk s=true):isFlB s=false:=by
 unfold isFlB
 rw[Bool.or_eq_false_iff]
 constructor
 ·apply decide_eq_false
  intro e
  subst e
  revert h
  decide
 ·apply decide_eq_false
  intro e
  subst e
  revert h
  decide
theorem ptr_ty {s:List UInt8}(h:tyOk s=true):(s==[112,116,114])=false:=by
 apply beq_eq_false_iff_ne.2
 intro e
 subst e
 revert h
 decide
theorem wid_ty {s:List UInt8}(h:tyOk s=true):widR s=((tyR s).2.1,0):=by
 have h0:(tyR s).1=0:=of_decide_eq_true h
 unfold widR
 rw[if_neg,if_neg,if_neg,if_pos h0]
 ·intro e;subst e;revert h;decide
 ·intro e;subst e;revert h;decide
 ·intro e;subst e;revert h;decide
theorem ty_ok {s:List UInt8}{w:Nat}{sg:Bool}(ht:tyR s=(0,(w:Int),sg)):tyOk s=true:=by
 unfold tyOk
 rw[ht];rfl
theorem call20 {s t:List UInt8}{w:Nat}{sg:Bool}(hf:isFlB t=false) (hw:w≤64) (x:Nat) (hx:x<18446744073709551616) (m:IM) :
  cw (.f 20) [.agg [.int .i64 (w:Int),.bool sg,.str t,.int .u64 (x:Int)]] m=some (.bool (decide (x<2^w)),m):=by
 have h22:=call22 t m
 rw[hf] at h22
 have c22:=fun (R:Type) (K:IV→IM→Option R)=>callC_cw h22 (by rfl) K
 have c37:=fun (R:Type) (K:IV→IM→Option R)=>callC_cw (call37 w sg hw m) (by rfl) K
 apply F20_call
 simp only[F20,go_sem,c22,Bool.false_eq_true,if_false,c37,andNot_z x w hx hw]
theorem val_ok {w:Nat}{sg:Bool}(hw:w≤64) (hs:sg=true→1≤w) {x:Nat}(hx:x<2^w):okZ (valT w sg x):=by
 have hp:=pw_lt w hw
 unfold okZ
 cases sg with
 |false=>rw[show valT w false x=(x:Int) from rfl];omega
 |true =>
  have h1:=hs rfl
  obtain⟨b1,b2⟩:=sval_bd w x h1 hx
  have:=pw1_lt w hw h1
  rw[show valT w true x=svalN w x from rfl]
  generalize 2^(w-1)=q at b1 b2 this
  omega
def inZ (w:Nat) (sg:Bool) (z:Int):Bool:=decide (loZ w sg≤z∧z≤hiZ w sg)
theorem call51 {s t:List UInt8}{w w2:Nat}{sg sg2:Bool}(hs:tyR s=(0,(w:Int),sg)) (hw:w≤64) (h1:sg=true→1≤w) (ht:tyR t=(0,(w2:Int),sg2)) (hw2:w2≤64) (h2:sg2=true→1≤w2) (x:Nat) (hx:x<2^w) :
  cw (.f 51) [.agg [.int .i64 (w:Int),.bool sg,.str s,.int .u64 (x:Int)],.str t] m0=some (.tup [.int .u64 (if inZ w2 sg2 (valT w sg x) then valT w sg x%((2^w2:Nat):Int) else 0),.bool (inZ w2 sg2 (valT w sg x))],m0):=by
 have hp:=pw_lt w hw
 have hx64:x<18446744073709551616:=by omega
 have h22:=call22 s m0
 rw[fl_ty (ty_ok hs)] at h22
 have c22:=fun (R:Type) (K:IV→IM→Option R)=>callC_cw h22 (by rfl) K
 have h27:=call27 hs hw h1 x hx64 m0
 rw[if_pos hx] at h27
 have c27:=fun (R:Type) (K:IV→IM→Option R)=>callC_cw h27 (by rfl) K
 have h118:=call118 ht hw2 h2 (val_ok hw h1 hx)
 apply F51_call
 unfold inZ
 by_cases g:loZ w2 sg2≤valT w sg x∧valT w sg x≤hiZ w2 sg2
 ·rw[if_pos g] at h118
  have c118:=fun (R:Type) (K:IV→IM→Option R)=>callC_cw h118 (by rfl) K
  rw[decide_eq_true g]
  simp only[F51,C51_c0,go_sem,c22,Bool.false_eq_true,if_false,c27,if_true,bne_self_eq_false,c118,beq_self_eq_true]
  exact settle_id rfl
 ·rw[if_neg g] at h118
  have c118:=fun (R:Type) (K:IV→IM→Option R)=>callC_cw h118 (by rfl) K
  have e35:((35:Int)==0)=false:=rfl
  rw[decide_eq_false g]
  simp only[F51,C51_c0,go_sem,c22,Bool.false_eq_true,if_false,c27,if_true,bne_self_eq_false,c118,e35]
  exact settle_id rfl
theorem call53 (x:Int) (m:IM):cw (.f 53) [.int .u64 x] m=some (.agg [.int .u64 x,.int .i64 (-1)],m):=by
 apply F53_call
 exact settle_id rfl
theorem call50 (b:Bool) (m:IM):cw (.f 50) [.bool b] m=some (.agg [.int .u64 (if b then 1 else 0),.int .i64 (-1)],m):=by
 have c53:=fun (x:Int) (R:Type) (K:IV→IM→Option R)=>callC_cw (call53 x m) (by rfl) K
 apply F50_call
 cases b with
 |true=>simp only[F50,go_sem,if_true,c53];exact settle_id rfl
 |false=>simp only[F50,go_sem,Bool.false_eq_true,if_false,c53];exact settle_id rfl
theorem call26a {s t:List UInt8}{w w2:Nat}{sg sg2:Bool}(hs:tyR s=(0,(w:Int),sg)) (hw:w≤64) (h1:sg=true→1≤w) (ht:tyR t=(0,(w2:Int),sg2)) (hw2:w2≤64) (h2:sg2=true→1≤w2) (x:Nat) (hx:x<2^w) :
  cw (.f 26) [.agg [.int .i64 (w:Int),.bool sg,.str s,.int .u64 (x:Int)],.int .i64 39,.str t,.func 20 [] []] m0=some (.agg [.int .u64 (if inZ w2 sg2 (valT w sg x) then 1 else 0),.int .i64 (-1)],m0):=by
 have c51:=fun (R:Type) (K:IV→IM→Option R)=>callC_cw (call51 hs hw h1 ht hw2 h2 x hx) (by rfl) K
 have c50:=fun (b:Bool) (R:Type) (K:IV→IM→Option R)=>callC_cw (call50 b m0) (by rfl) K
 apply F26_call
 simp only[F26,C26_c0,go_sem,c51,c50,beq_self_eq_true,if_true]
 exact settle_id rfl
theorem call26b {s t:List UInt8}{w w2:Nat}{sg sg2:Bool}(hs:tyR s=(0,(w:Int),sg)) (hw:w≤64) (h1:sg=true→1≤w) (ht:tyR t=(0,(w2:Int),sg2)) (hw2:w2≤64) (h2:sg2=true→1≤w2) (x:Nat) (hx:x<2^w) :
  cw (.f 26) [.agg [.int .i64 (w:Int),.bool sg,.str s,.int .u64 (x:Int)],.int .i64 38,.str t,.func 20 [] []] m0=some (.agg [.int .u64 (valT w sg x%((2^w2:Nat):Int)),.int .i64 (if inZ w2 sg2 (valT w sg x) then -1 else 5)],m0):=by
 have hp:=pw_lt w hw
 have hx64:x<18446744073709551616:=by omega
 have c51:=fun (R:Type) (K:IV→IM→Option R)=>callC_cw (call51 hs hw h1 ht hw2 h2 x hx) (by rfl) K
 have c53:=fun (b:Int) (R:Type) (K:IV→IM→Option R)=>callC_cw (call53 b m0) (by rfl) K
 have h27:=call27 hs hw h1 x hx64 m0
 rw[if_pos hx] at h27
 have c27:=fun (R:Type) (K:IV→IM→Option R)=>callC_cw h27 (by rfl) K
 have c54:=fun (R:Type) (K:IV→IM→Option R)=>callC_cw (call54 ht hw2 (val_ok hw h1 hx)) (by rfl) K
 have e1:((38:Int)==39)=false:=rfl
 have e2:((38:Int)==44)=false:=rfl
 have e3:((38:Int)==43)=false:=rfl
 apply F26_call
 generalize inZ w2 sg2 (valT w sg x)=b at c51 ⊢
 cases b with
 |true =>
  simp only[F26,C26_c0,go_sem,c51,e1,e2,e3,Bool.false_eq_true,if_false,beq_self_eq_true,if_true,c53]
  exact settle_id rfl
 |false =>
  simp only[F26,C26_c0,go_sem,c51,e1,e2,e3,Bool.false_eq_true,if_false,beq_self_eq_true,if_true,c27,c54]
  exact settle_id rfl
theorem conv_ok {op:Int}{s t:List UInt8}(hs:tyOk s=true) (ht:tyOk t=true) (ho:op=38∨op=39):convB op s t=true:=by
 unfold convB
 rw[if_pos ho,hs,ht];rfl
theorem call9a {s t:List UInt8}{w w2:Nat}{sg sg2:Bool}(hs:tyR s=(0,(w:Int),sg)) (hw:w≤64) (h1:sg=true→1≤w) (ht:tyR t=(0,(w2:Int),sg2)) (hw2:w2≤64) (h2:sg2=true→1≤w2) (x:Nat) (hx:x<2^w) :
  cw (.f 9) [.int .i64 39,.str s,.str t,.int .u64 (x:Int)] m0=some (.tup [.int .u64 (if inZ w2 sg2 (valT w sg x) then 1 else 0),.int .i64 (-1),.int .i64 0],m0):=by
 have hp:=pw_lt w hw
 have hx64:x<18446744073709551616:=by omega
 have h19:=call19 s x m0
 rw[hs] at h19
 have c19:=fun (R:Type) (K:IV→IM→Option R)=>callC_cw h19 (by rfl) K
 have h25:=call25 39 s t m0
 rw[conv_ok (ty_ok hs) (ty_ok ht) (.inr rfl)] at h25
 have c25:=fun (R:Type) (K:IV→IM→Option R)=>callC_cw h25 (by rfl) K
 have c14:=fun (b:Bool) (e:Int) (R:Type) (K:IV→IM→Option R)=>callC_cw (call14 b e m0) (by rfl) K
 have h20:=call20 (sg:=sg) (s:=s) (fl_ty (ty_ok hs)) hw x hx64 m0
 rw[decide_eq_true hx] at h20
 have c20:=fun (R:Type) (K:IV→IM→Option R)=>callC_cw h20 (by rfl) K
 have c24:=fun (a b:Int) (R:Type) (K:IV→IM→Option R)=>callC_cw (call24 a b m0) (by rfl) K
 have c26:=fun (R:Type) (K:IV→IM→Option R)=>callC_cw (call26a hs hw h1 ht hw2 h2 x hx) (by rfl) K
 have e1:decide ((39:Int)<0)=false:=rfl
 have e2:decide ((39:Int)≥70)=false:=rfl
 apply F9_call
 simp only[F9,C9_c0,go_sem,e1,e2,Bool.false_eq_true,if_false,if_true,c19,c25,Bool.not_true,c14,c20,c24,bne_self_eq_false,c26]
 exact settle_id rfl
theorem call9b {s t:List UInt8}{w w2:Nat}{sg sg2:Bool}(hs:tyR s=(0,(w:Int),sg)) (hw:w≤64) (h1:sg=true→1≤w) (ht:tyR t=(0,(w2:Int),sg2)) (hw2:w2≤64) (h2:sg2=true→1≤w2) (x:Nat) (hx:x<2^w) :
  cw (.f 9) [.int .i64 38,.str s,.str t,.int .u64 (x:Int)] m0=some (.tup [.int .u64 (valT w sg x%((2^w2:Nat):Int)),.int .i64 (if inZ w2 sg2 (valT w sg x) then -1 else 5),.int .i64 0],m0):=by
 have hp:=pw_lt w hw
 have hx64:x<18446744073709551616:=by omega
 have h19:=call19 s x m0
 rw[hs] at h19
 have c19:=fun (R:Type) (K:IV→IM→Option R)=>callC_cw h19 (by rfl) K
 have h25:=call25 38 s t m0
 rw[conv_ok (ty_ok hs) (ty_ok ht) (.inl rfl)] at h25
 have c25:=fun (R:Type) (K:IV→IM→Option R)=>callC_cw h25 (by rfl) K
 have c14:=fun (b:Bool) (e:Int) (R:Type) (K:IV→IM→Option R)=>callC_cw (call14 b e m0) (by rfl) K
 have h20:=call20 (sg:=sg) (s:=s) (fl_ty (ty_ok hs)) hw x hx64 m0
 rw[decide_eq_true hx] at h20
 have c20:=fun (R:Type) (K:IV→IM→Option R)=>callC_cw h20 (by rfl) K
 have c24:=fun (a b:Int) (R:Type) (K:IV→IM→Option R)=>callC_cw (call24 a b m0) (by rfl) K
 have c26:=fun (R:Type) (K:IV→IM→Option R)=>callC_cw (call26b hs hw h1 ht hw2 h2 x hx) (by rfl) K
 have e1:decide ((38:Int)<0)=false:=rfl
 have e2:decide ((38:Int)≥70)=false:=rfl
 apply F9_call
 simp only[F9,C9_c0,go_sem,e1,e2,Bool.false_eq_true,if_false,if_true,c19,c25,Bool.not_true,c14,c20,c24,bne_self_eq_false,c26]
 exact settle_id rfl
theorem zc_nil:∀l:List IV,zipCap l []=List.replicate l.length .any
 |[]=>rfl
 |v::r=>by rw[zipCap,zc_nil r];rfl
theorem repl_l:∀n,(repl [.int .u8 0] n).length=n
 |0=>rfl
 |n+1=>by rw[repl,List.length_append,repl_l n,List.length_singleton];omega
theorem bc_refs:∀s,refsAll (bytesCells s)=some 0
 |[]=>rfl
 |b::r=>by rw[bytesCells,refsAll,bc_refs r];rfl
theorem cps_box {R:Type}{m:IM}{id:Nat}{cs:List IV}{M:Nat}(h:m.get id=.cells cs (anyC M)) (hcs:cs.length=M) (s:List UInt8) (hs:s.length=M) (K:Nat→IM→Option R) :
  cpS m (.sB id 0 s.length 1) 1 (bytesCells s) s.length K=K s.length (setM m id (.cells (over cs 0 (bytesCells s)) (anyC M))):=by
 have hm:Nat.min s.length s.length=s.length:=Nat.min_self _
 have ht:(bytesCells s).take (s.length*1)=bytesCells s:=List.take_of_length_le (by rw[bc_len];omega)
 have ho:overCap (anyC M) 0 s.length .any=anyC M:=by
  unfold overCap
  rw[List.take_replicate,List.drop_replicate,List.replicate_append_replicate,List.replicate_append_replicate]
  congr 1
  omega
 unfold cpS
 simp only[hm,ht]
 rw[storeB_eq,if_neg (by rw[bc_len];omega),h,bc_refs]
 simp only
 rw[if_pos (by omega),if_pos (Nat.zero_le _),Nat.mul_one,ho]
 rfl
theorem call10 {s:List UInt8}{w:Nat}{sg:Bool}(hs:tyR s=(0,(w:Int),sg)) (hw:w≤64) (h1:sg=true→1≤w) (x:Nat) (hx:x<2^w) :
  cw (.f 10) [.str s,.int .u64 (x:Int)] m0=some (.tup [.str (txtZ (valT w sg x)),.int .i64 0],m0):=by
 have hp:=pw_lt w hw
 have hx64:x<18446744073709551616:=by omega
 have hok:=ty_ok hs
 have h19:=call19 s x m0
 rw[hs] at h19
 have c19:=fun (R:Type) (K:IV→IM→Option R)=>callC_cw h19 (by rfl) K
 have h5:=call5 s m0
 rw[wid_ty hok] at h5
 have c5:=fun (R:Type) (K:IV→IM→Option R)=>callC_cw h5 (by rfl) K
 have c14:=fun (b:Bool) (e:Int) (R:Type) (K:IV→IM→Option R)=>callC_cw (call14 b e m0) (by rfl) K
 have h20:=call20 (sg:=sg) (s:=s) (fl_ty hok) hw x hx64 m0
 rw[decide_eq_true hx] at h20
 have c20:=fun (R:Type) (K:IV→IM→Option R)=>callC_cw h20 (by rfl) K
 have v20:∀(R:Type) (a:IV) (m:IM) (K:IV→IM→Option R),callVC cw (.func 20 [a] []) [] [] m K=callC cw (.f 20) [a] [] m K:=fun _ _ _ _=>rfl
 have c24:=fun (a b:Int) (R:Type) (K:IV→IM→Option R)=>callC_cw (call24 a b m0) (by rfl) K
 have h22:=call22 s m0
 rw[fl_ty hok] at h22
 have c22:=fun (R:Type) (K:IV→IM→Option R)=>callC_cw h22 (by rfl) K
 have h27:=call27 hs hw h1 x hx64 m0
 rw[if_pos hx] at h27
 have c27:=fun (R:Type) (K:IV→IM→Option R)=>callC_cw h27 (by rfl) K
 have v27:∀(R:Type) (a b:IV) (m:IM) (K:IV→IM→Option R),callVC cw (.func 27 [] []) [a,b] [] m K=callC cw (.f 27) [a,b] [] m K:=fun _ _ _ _ _=>rfl
 have hl:=txt_len (valT w sg x) (val_ok hw h1 hx)
 apply F10_call
 simp only[F10,C10_c0,C10_c1,go_sem,c19,c5,bne_self_eq_false,Bool.false_eq_true,if_false,ptr_ty hok,c14,v20,c20,Bool.not_true,c24,if_true,c22,v27,c27]
 generalize txtZ (valT w sg x)=t at hl ⊢
 have hmx:1000≤maxLenI:=by decide
 have g2:(bytesCells t).length=t.length*1:=by rw[bc_len];omega
 have hcs:(repl [.int .u8 0] t.length).length=t.length:=repl_l _
 have hz:zipCap (repl [.int .u8 0] t.length) []=anyC t.length:=by rw[zc_nil,hcs]
 have hb:(pushM m0 (.cells (repl [.int .u8 0] t.length) (anyC t.length))).get m0.size=.cells (repl [.int .u8 0] t.length) (anyC t.length):=get_pushM _ _
 have hcp:=fun K=>cps_box (R:=IV×IM) hb hcs t rfl K
 have hb2:(pushM m0 (.cells (over (repl [.int .u8 0] t.length) 0 (bytesCells t)) (anyC t.length))).get m0.size=.cells (over (repl [.int .u8 0] t.length) 0 (bytesCells t)) (anyC t.length):=get_pushM _ _
 have hby:=fun K=>by_box (R:=IV×IM) hb2 hcs (Nat.le_refl _) K
 simp only[Int.toNat_natCast,hz]
 rw[if_pos (decide_eq_true ⟨by omega,by omega,by omega,by omega⟩),if_pos (decide_eq_true g2)]
 refine (hcp _).trans ?_
 rw[setM_pushM,hby]
 exact settle_push rfl
theorem shr64_ev (a:Int) (k:Nat) (h:k≤64):POp.ev (.bin .shr) [.int .i64 a,.int .i64 (k:Int)]=some (.int .i64 (Int.fdiv a (2^k))):=by
 have c:¬(k:Int)<0:=by omega
 show (if (k:Int)<0 then none else some (IV.int .i64 (Int.fdiv a (2^Nat.min (k:Int).toNat 64))))=_
 rw[if_neg c,Int.toNat_natCast,show Nat.min k 64=k from Nat.min_eq_left h]
theorem shlU_ev (x:Int) (k:Nat) (h:k≤64):POp.ev (.bin .shl) [.int .u64 x,.int .i64 (k:Int)]=some (.int .u64 (IntKind.u64.wrap (x*2^k))):=by
 have c:¬(k:Int)<0:=by omega
 show (if (k:Int)<0 then none else some (IV.int .u64 (IntKind.u64.wrap (x*2^Nat.min (k:Int).toNat 64))))=_
 rw[if_neg c,Int.toNat_natCast,show Nat.min k 64=k from Nat.min_eq_left h]
theorem call142 (w x:Nat) (sg:Bool) (h1:1≤w) (hw:w≤64) (hx:x<2^w) (m:IM):cw (.f 142) [.agg [.int .i64 (w:Int),.bool sg],.int .u64 (x:Int)] m=some (.int .i64 (svalN w x),m):=by
 have w1:IntKind.i64.wrap (64-(w:Int))=((64-w:Nat):Int):=by rw[w64 (by omega) (by omega)];omega
 apply F142_call
 simp only[F142,go_sem,w1,evC_of (shlU_ev x (64-w) (by omega)),evC_of (shr64_ev _ (64-w) (by omega)),value_ok w x h1 hw hx]
theorem call141 (a b:Nat) (m:IM):cw (.f 141) [.int .u64 (a:Int),.int .u64 (b:Int),.int .u64 0] m=some (.tup [.int .u64 (((a+b)%18446744073709551616:Nat):Int),.int .u64 (((a+b)/18446744073709551616:Nat):Int)],m):=by
 have hp:prims 141=some pAdd64:=rfl
 unfold cw
 rw[callW_prim hp]
 have c1:decide (0≤(a:Int))=true:=decide_eq_true (by omega)
 have c2:decide (0≤(b:Int))=true:=decide_eq_true (by omega)
 have e:(a:Int)+(b:Int)+0=((a+b:Nat):Int):=by omega
 simp only[pAdd64,c1,c2,e]
 rfl
def EX (f:Nat) (w:Nat) (sg:Bool) (a b:Nat) (x:Nat) (ov lw:Bool):Prop:=x<2^w∧cw (.f f) [.agg [.int .i64 (w:Int),.bool sg],.int .u64 (a:Int),.int .u64 (b:Int)] m0=some (.agg [.int .u64 (x:Int),.bool ov,.bool lw],m0)
theorem plus_ex (w a b:Nat) (sg:Bool) (hw:w≤64) (hs:sg=true→1≤w) (ha:a<2^w) (hb:b<2^w):∃x ov lw,EX 72 w sg a b x ov lw:=by
 have c37:=fun (R:Type) (K:IV→IM→Option R)=>callC_cw (call37 w sg hw m0) (by rfl) K
 have c141:=fun (R:Type) (K:IV→IM→Option R)=>callC_cw (call141 a b m0) (by rfl) K
 have hm:=and_mask ((a+b)%18446744073709551616) w (Nat.mod_lt _ (by decide)) hw
 generalize hS:(a+b)%18446744073709551616=S at c141 hm
 generalize (a+b)/18446744073709551616=Q at c141
 have hl:S%2^w<2^w:=Nat.mod_lt _ (Nat.two_pow_pos _)
 cases sg with
 |false =>
  by_cases g:decide ((Q:Int)>0)=true
  ·refine Exists.intro (S%2^w) ?_
   apply Exists.intro
   apply Exists.intro
   refine⟨hl,?_⟩
   apply F72_call
   simp only[F72,C72_c0,go_sem,c141,Bool.not_false,if_true,c37,g,hm]
   exact settle_id rfl
  ·refine Exists.intro (S%2^w) ?_
   apply Exists.intro
   apply Exists.intro
   refine⟨hl,?_⟩
   apply F72_call
   simp only[F72,C72_c0,go_sem,c141,Bool.not_false,if_true,c37,g,hm,if_false,Bool.false_eq_true]
   exact settle_id rfl
 |true =>
  have h1:=hs rfl
  have cA:=fun (R:Type) (K:IV→IM→Option R)=>callC_cw (call142 w a true h1 hw ha m0) (by rfl) K
  have cB:=fun (R:Type) (K:IV→IM→Option R)=>callC_cw (call142 w b true h1 hw hb m0) (by rfl) K
  have cS:=fun (R:Type) (K:IV→IM→Option R)=>callC_cw (call142 w (S%2^w) true h1 hw hl m0) (by rfl) K
  by_cases g:(decide (svalN w a<0)==decide (svalN w b<0))=true
  ·refine Exists.intro (S%2^w) ?_
   apply Exists.intro
   apply Exists.intro
   refine⟨hl,?_⟩
   apply F72_call
   simp only[F72,C72_c1,go_sem,c141,Bool.not_true,Bool.false_eq_true,if_false,cA,cB,c37,hm,cS,g,if_true]
   exact settle_id rfl
  ·refine Exists.intro (S%2^w) ?_
   apply Exists.intro
   apply Exists.intro
   refine⟨hl,?_⟩
   apply F72_call
   simp only[F72,C72_c1,go_sem,c141,Bool.not_true,Bool.false_eq_true,if_false,cA,cB,c37,hm,cS,g,if_true]
   exact settle_id rfl
theorem sub_mask (a b w:Nat) (hw:w≤64):∃D:Nat,D<2^w∧andU (IntKind.u64.wrap ((a:Int)-(b:Int))) ((maskN w:Nat):Int)=(D:Int):=by
 have h:=and_wrap ((a:Int)-b) w hw
 have hp:0<2^w:=Nat.two_pow_pos _
 have h0:0≤((a:Int)-b)%((2^w:Nat):Int):=Int.emod_nonneg _ (by omega)
 have h1:((a:Int)-b)%((2^w:Nat):Int)<((2^w:Nat):Int):=Int.emod_lt_of_pos _ (by omega)
 refine⟨(((a:Int)-b)%((2^w:Nat):Int)).toNat,by omega,?_⟩
 rw[h]
 omega
theorem minus_ex (w a b:Nat) (sg:Bool) (hw:w≤64) (hs:sg=true→1≤w) (ha:a<2^w) (hb:b<2^w):∃x ov lw,EX 73 w sg a b x ov lw:=by
 have c37:=fun (R:Type) (K:IV→IM→Option R)=>callC_cw (call37 w sg hw m0) (by rfl) K
 obtain⟨D,hl,hm⟩:=sub_mask a b w hw
 cases sg with
 |false =>
  refine Exists.intro (D) ?_
  apply Exists.intro
  apply Exists.intro
  refine⟨hl,?_⟩
  apply F73_call
  simp only[F73,go_sem,Bool.not_false,if_true,c37,hm]
  exact settle_id rfl
 |true =>
  have h1:=hs rfl
  have cA:=fun (R:Type) (K:IV→IM→Option R)=>callC_cw (call142 w a true h1 hw ha m0) (by rfl) K
  have cB:=fun (R:Type) (K:IV→IM→Option R)=>callC_cw (call142 w b true h1 hw hb m0) (by rfl) K
  have cS:=fun (R:Type) (K:IV→IM→Option R)=>callC_cw (call142 w D true h1 hw hl m0) (by rfl) K
  by_cases g:(!decide (svalN w a<0)==decide (svalN w b<0))=true
  ·refine Exists.intro (D) ?_
   apply Exists.intro
   apply Exists.intro
   refine⟨hl,?_⟩
   apply F73_call
   simp only[F73,C73_c0,go_sem,Bool.not_true,Bool.false_eq_true,if_false,cA,cB,c37,hm,cS,g,if_true]
   exact settle_id rfl
  ·refine Exists.intro (D) ?_
   apply Exists.intro
   apply Exists.intro
   refine⟨hl,?_⟩
   apply F73_call
   simp only[F73,C73_c0,go_sem,Bool.not_true,Bool.false_eq_true,if_false,cA,cB,c37,hm,cS,g,if_true]
   exact settle_id rfl
theorem call143 (w a:Nat) (sg:Bool) (hw:w≤64) (hs:sg=true→1≤w) (ha:a<2^w):∃x s,cw (.f 143) [.agg [.int .i64 (w:Int),.bool sg],.int .u64 (a:Int)] m0=some (.tup [.int .u64 x,.bool s],m0):=by
 cases sg with
 |false =>
  apply Exists.intro
  apply Exists.intro
  apply F143_call
  simp only[F143,C143_c0,go_sem,Bool.false_eq_true,if_false,if_true]
  exact settle_id rfl
 |true =>
  have h1:=hs rfl
  have cA:=fun (R:Type) (K:IV→IM→Option R)=>callC_cw (call142 w a true h1 hw ha m0) (by rfl) K
  by_cases g:decide (svalN w a<0)=true
  ·apply Exists.intro
   apply Exists.intro
   apply F143_call
   simp only[F143,C143_c0,go_sem,cA,if_true,g]
   exact settle_id rfl
  ·apply Exists.intro
   apply Exists.intro
   apply F143_call
   simp only[F143,C143_c0,go_sem,cA,if_true,g,Bool.false_eq_true,if_false]
   exact settle_id rfl
theorem call144 (x y:Int):∃h l,cw (.f 144) [.int .u64 x,.int .u64 y] m0=some (.tup [.int .u64 h,.int .u64 l],m0):=by
 apply Exists.intro
 apply Exists.intro
 apply F144_call
 exact settle_id rfl
theorem call145 (w:Nat) (sg:Bool) (hw:w≤64):∃x:Nat,(x<2^w)∧cw (.f 145) [.agg [.int .i64 (w:Int),.bool sg]] m0=some (.int .u64 (x:Int),m0):=by
 have hp:0<2^w:=Nat.two_pow_pos _
 have c37:=fun (R:Type) (K:IV→IM→Option R)=>callC_cw (call37 w sg hw m0) (by rfl) K
 cases sg with
 |false =>
  refine⟨maskN w,by unfold maskN;omega,?_⟩
  apply F145_call
  simp only[F145,go_sem,Bool.not_false,if_true,c37]
 |true =>
  have e:Int.fdiv ((maskN w:Nat):Int) (2^Nat.min (Int.toNat 1) (IntKind.bits .u64))=((maskN w/2:Nat):Int):=by
   show Int.fdiv ((maskN w:Nat):Int) (2:Int)=_
   rw[Int.fdiv_eq_ediv_of_nonneg _ (by decide)]
   rfl
  refine⟨maskN w/2,by unfold maskN;omega,?_⟩
  apply F145_call
  unfold F145
  rw[iteC_if,if_neg (by decide),c37,asI_mk,e]
  apply settle_id
  rfl
theorem call151 (w:Nat) (sg:Bool) (hw:w≤64) (hs:sg=true→1≤w):cw (.f 151) [.agg [.int .i64 (w:Int),.bool sg]] m0=some (.int .u64 ((if sg then 2^(w-1) else 0:Nat):Int),m0):=by
 apply F151_call
 cases sg with
 |false =>
  simp only[F151,go_sem,Bool.not_false,if_true,Bool.false_eq_true,if_false]
  rfl
 |true =>
  have h1:=hs rfl
  have w1:IntKind.i64.wrap ((w:Int)-1)=((w-1:Nat):Int):=by rw[w64 (by omega) (by omega)];omega
  simp only[F151,go_sem,Bool.not_true,Bool.false_eq_true,if_false,w1,evC_of (shl_ev (w-1) (by omega)),if_true]
theorem least_lt (w:Nat) (sg:Bool) (hs:sg=true→1≤w):(if sg then 2^(w-1) else 0)<2^w:=by
 have hp:0<2^w:=Nat.two_pow_pos _
 cases sg with
 |false=>exact hp
 |true=>exact Nat.pow_lt_pow_right (by decide) (by have:=hs rfl;omega)
theorem call148 (w:Nat) (sg:Bool) (hw:w≤64) (hs:sg=true→1≤w) (x:Nat) (ov lw:Bool) (hx:x<2^w) :
  ∃y:Nat,y<2^w∧(ov=false→y=x)∧cw (.f 148) [.agg [.int .i64 (w:Int),.bool sg],.agg [.int .u64 (x:Int),.bool ov,.bool lw]] m0=some (.int .u64 (y:Int),m0):=by
 cases ov with
 |false =>
  refine⟨x,hx,fun _=>rfl,?_⟩
  apply F148_call
  simp only[F148,go_sem,Bool.not_false,if_true]
 |true =>
  cases lw with
  |true =>
   have c:=fun (R:Type) (K:IV→IM→Option R)=>callC_cw (call151 w sg hw hs) (by rfl) K
   refine⟨_,least_lt w sg hs,(fun h=>by cases h),?_⟩
   apply F148_call
   simp only[F148,go_sem,Bool.not_true,Bool.false_eq_true,if_false,if_true,c]
  |false =>
   obtain⟨y,h1,h2⟩:=call145 w sg hw
   have c:=fun (R:Type) (K:IV→IM→Option R)=>callC_cw h2 (by rfl) K
   refine⟨y,h1,(fun h=>by cases h),?_⟩
   apply F148_call
   simp only[F148,go_sem,Bool.not_true,Bool.false_eq_true,if_false,c]
theorem mul_mask (a b w:Nat) (hw:w≤64):∃D:Nat,D<2^w∧andU (IntKind.u64.wrap ((a:Int)*(b:Int))) ((maskN w:Nat):Int)=(D:Int):=by
 have h:=and_wrap ((a:Int)*b) w hw
 have hp:0<2^w:=Nat.two_pow_pos _
 have h0:0≤((a:Int)*b)%((2^w:Nat):Int):=Int.emod_nonneg _ (by omega)
 have h1:((a:Int)*b)%((2^w:Nat):Int)<((2^w:Nat):Int):=Int.emod_lt_of_pos _ (by omega)
 refine⟨(((a:Int)*b)%((2^w:Nat):Int)).toNat,by omega,?_⟩
 rw[h]
 omega
theorem times_ex (w a b : Nat) (sg : Bool) (hw : w ≤ 64) (hs : sg = true → 1 ≤ w) (ha : a < 2 ^ w) (hb : b < 2 ^ w) : ∃ x ov lw, EX 74 w sg a b x ov lw := by
  have c37 := fun (R : Type) (K : IV → IM → Option R) => callC_cw (call37 w sg hw m0) (by rfl) K
  obtain ⟨D, hl, hm⟩ := mul_mask a b w hw
  obtain ⟨x1, s1, e1⟩ := call143 w a sg hw hs ha
  obtain ⟨x2, s2, e2⟩ := call143 w b sg hw hs hb
  obtain ⟨H, L, e3⟩ := call144 x1 x2
  obtain ⟨M, _, e4⟩ := call145 w sg hw
  have c1 := fun (R : Type) (K : IV → IM → Option R) => callC_cw e1 (by rfl) K
  have c2 := fun (R : Type) (K : IV → IM → Option R) => callC_cw e2 (by rfl) K
  have c3 := fun (R : Type) (K : IV → IM → Option R) => callC_cw e3 (by rfl) K
  have c4 := fun (R : Type) (K : IV → IM → Option R) => callC_cw e4 (by rfl) K
  refine Exists.intro D ?_
  cases hB1 : (!s1 == s2) <;> cases hB2 : decide (H > 0) <;> cases hB3 : decide (L > 0) <;> cases sg <;>
    (apply Exists.intro; apply Exists.intro; refine ⟨hl, ?_⟩; apply F74_call;
     simp only [F74, C74_c0, C74_c1, C74_c2, C74_c3, go_sem, c1, c2, c3, c4, c37, hm, hB1, hB2, hB3, Bool.false_eq_true, if_false, if_true];
     apply settle_id; rfl)
theorem call52 (b:Bool) (k x:Int) (m:IM):cw (.f 52) [.bool b,.int .i64 k,.int .u64 x] m=some (.agg [.int .u64 x,.int .i64 (if b then k else -1)],m):=by
 have c53:=fun (x:Int) (R:Type) (K:IV→IM→Option R)=>callC_cw (call53 x m) (by rfl) K
 apply F52_call
 cases b with
 |true=>simp only[F52,go_sem,if_true];apply settle_id;rfl
 |false=>simp only[F52,go_sem,Bool.false_eq_true,if_false,c53];apply settle_id;rfl
def DO (d:IV) (w:Nat) (sg:Bool) (a b:Nat) (x:Nat) (k:Int):Prop:=∀(R:Type) (K:IV→IM→Option R),callVC cw d [.agg [.int .i64 (w:Int),.bool sg],.int .u64 (a:Int),.int .u64 (b:Int)] [] m0 K=K (.agg [.int .u64 (x:Int),.int .i64 k]) m0
theorem do_of {g:Nat}{d:List IV}{w a b x:Nat}{sg:Bool}{k:Int}(h:cw (.f g) ([.agg [.int .i64 (w:Int),.bool sg],.int .u64 (a:Int),.int .u64 (b:Int)]++d) m0=some (.agg [.int .u64 (x:Int),.int .i64 k],m0)) (hr:(refsAll (([IV.agg [.int .i64 (w:Int),.bool sg],IV.int .u64 (a:Int),IV.int .u64 (b:Int)]++d).flatMap IV.cells)).isSome=true):DO (.func g [] d) w sg a b x k:=by
 intro R K
 exact callC_cw h hr K
section
variable {f w a b x:Nat}{sg ov lw:Bool}
theorem exC' (h:EX f w sg a b x ov lw) (R:Type) (K:IV→IM→Option R):callVC cw (.func f [] []) [.agg [.int .i64 (w:Int),.bool sg],.int .u64 (a:Int),.int .u64 (b:Int)] [] m0 K=K (.agg [.int .u64 (x:Int),.bool ov,.bool lw]) m0:=callC_cw h.2 (by rfl) K
theorem cutF (f:Nat) (R:Type) (K:IV→Option R):cutC false [IV.func f [] []] 0 1 K=K (.func f [] []):=cutC_false rfl K
theorem do_checked (h:EX f w sg a b x ov lw):DO (.func 140 [] [.pI [.func f [] []] 0]) w sg a b x (if ov then 0 else -1):=by
 have c52:=fun (b:Bool) (k x:Int) (R:Type) (K:IV→IM→Option R)=>callC_cw (call52 b k x m0) (by rfl) K
 refine do_of (F140_call _ _ _ _ _ _ ?_) (by rfl)
 simp only[F140,go_sem,cutF,exC' h,c52]
 apply settle_id;rfl
theorem do_wrapped (h:EX f w sg a b x ov lw):DO (.func 146 [] [.pI [.func f [] []] 0]) w sg a b x (-1):=by
 have c53:=fun (x:Int) (R:Type) (K:IV→IM→Option R)=>callC_cw (call53 x m0) (by rfl) K
 refine do_of (F146_call _ _ _ _ _ _ ?_) (by rfl)
 simp only[F146,go_sem,cutF,exC' h,c53]
 apply settle_id;rfl
theorem do_sat (hw:w≤64) (hs:sg=true→1≤w) (h:EX f w sg a b x ov lw):∃y:Nat,y<2^w∧(ov=false→y=x)∧DO (.func 147 [] [.pI [.func f [] []] 0]) w sg a b y (-1):=by
 obtain⟨y,h1,h2,h3⟩:=call148 w sg hw hs x ov lw h.1
 have c148:=fun (R:Type) (K:IV→IM→Option R)=>callC_cw h3 (by rfl) K
 have c53:=fun (x:Int) (R:Type) (K:IV→IM→Option R)=>callC_cw (call53 x m0) (by rfl) K
 refine⟨y,h1,h2,?_⟩
 refine do_of (F147_call _ _ _ _ _ _ ?_) (by rfl)
 simp only[F147,go_sem,cutF,exC' h,c148,c53]
 apply settle_id;rfl
theorem do_over (h:EX f w sg a b x ov lw):DO (.func 149 [] [.pI [.func f [] []] 0]) w sg a b (if ov then 1 else 0) (-1):=by
 have c50:=fun (b:Bool) (R:Type) (K:IV→IM→Option R)=>callC_cw (call50 b m0) (by rfl) K
 refine do_of (F149_call _ _ _ _ _ _ ?_) (by rfl)
 simp only[F149,go_sem,cutF,exC' h,c50]
 cases ov<;>(apply settle_id;rfl)
end
def DV (f w:Nat) (sg:Bool) (a b q r:Nat):Prop:=q<2^w∧r<2^w∧(∃k:Int,(q:Int)*b+r=a+((2^w:Nat):Int)*k)∧(sg=true→b=maskN w→r=0) ∧
 cw (.f f) [.agg [.int .i64 (w:Int),.bool sg],.int .u64 (a:Int),.int .u64 (b:Int)] m0=some (.tup [.int .u64 (q:Int),.int .u64 (r:Int)],m0)
theorem mask_mod (x:Int) (w:Nat) (hw:w≤64):∃(D:Nat) (k:Int),D<2^w∧(D:Int)=x+((2^w:Nat):Int)*k∧andU (IntKind.u64.wrap x) ((maskN w:Nat):Int)=(D:Int):=by
 have h:=and_wrap x w hw
 have hp:0<2^w:=Nat.two_pow_pos _
 have h0:0≤x%((2^w:Nat):Int):=Int.emod_nonneg _ (by omega)
 have h1:x%((2^w:Nat):Int)<((2^w:Nat):Int):=Int.emod_lt_of_pos _ (by omega)
 have h2:=Int.emod_add_mul_ediv x ((2^w:Nat):Int)
 refine⟨(x%((2^w:Nat):Int)).toNat,-(x/((2^w:Nat):Int)),by omega,?_,?_⟩
 ·rw[Int.toNat_of_nonneg h0,Int.mul_neg]
  omega
 ·rw[h];omega
theorem wrap_wrap (x:Int):IntKind.u64.wrap (0-IntKind.u64.wrap x)=IntKind.u64.wrap (-x):=by
 rw[wu64_mod,wu64_mod,wu64_mod];omega
theorem cong4 (M Q R X Y a b q r k1 k2 k3 k4:Int) (h:Y*Q+R=X) (hq:q=Q+M*k1) (hr:r=R+M*k2) (hb:Y=b+M*k3) (ha:X=a+M*k4):∃k,q*b+r=a+M*k:=by
 refine⟨k4-Q*k3+k1*b+k2,?_⟩
 subst hq hr
 have:b*Q+M*k3*Q+R=a+M*k4:=by rw[←ha,←h,hb,Int.add_mul]
 grind
theorem sval_zero {w b:Nat}(hb:b<2^w) (h1:1≤w) (h0:b≠0):svalN w b≠0:=by
 have c1:((2:Int)^w)=((2^w:Nat):Int):=by norm_cast
 unfold svalN
 split
 ·omega
 ·rw[c1];omega
theorem sval_mask (w:Nat) (h1:1≤w):svalN w (maskN w)=-1:=by
 have e3:2^w=2*2^(w-1):=by rw[←Nat.pow_succ'];congr 1;omega
 have hp:0<2^(w-1):=Nat.two_pow_pos _
 have c1:((2:Int)^w)=((2^w:Nat):Int):=by norm_cast
 unfold svalN maskN
 rw[c1]
 generalize 2^(w-1)=q at *
 generalize 2^w=W at *
 rw[if_neg (by omega)]
 omega
theorem divided_dv (w a b:Nat) (sg:Bool) (hw:w≤64) (hs:sg=true→1≤w) (ha:a<2^w) (hb:b<2^w) (h0:b≠0):∃q r,DV 79 w sg a b q r:=by
 have hp:=pw_lt w hw
 have c37:=fun (R:Type) (K:IV→IM→Option R)=>callC_cw (call37 w sg hw m0) (by rfl) K
 cases sg with
 |false =>
  have q1:a/b≤a:=Nat.div_le_self _ _
  have q2:a%b<b:=Nat.mod_lt _ (by omega)
  have hq:POp.ev (.bin .quo) [.int .u64 (a:Int),.int .u64 (b:Int)]=some (.int .u64 ((a/b:Nat):Int)):=by
   show (if (b:Int)=0 then none else some (IV.int .u64 (IntKind.u64.wrap (Int.tdiv a b))))=_
   rw[if_neg (by omega),show Int.tdiv (a:Int) (b:Int)=((a/b:Nat):Int) from rfl,wu64 (Int.natCast_nonneg _) (Int.ofNat_lt.2 (show a/b<18446744073709551616 by omega))]
  have hr:POp.ev (.bin .rem) [.int .u64 (a:Int),.int .u64 (b:Int)]=some (.int .u64 ((a%b:Nat):Int)):=by
   show (if (b:Int)=0 then none else some (IV.int .u64 (Int.tmod a b)))=_
   rw[if_neg (by omega)]
   rfl
  refine⟨a/b,a%b,by omega,by omega,⟨0,?_⟩,(fun h=>by cases h),?_⟩
  ·have:=Nat.div_add_mod a b
   rw[Nat.mul_comm] at this
   rw[Int.mul_zero,Int.add_zero]
   exact_mod_cast this
  ·apply F79_call
   simp only[F79,go_sem,Bool.not_false,if_true,evC_of hq,evC_of hr]
   apply settle_id;rfl
 |true =>
  have h1:=hs rfl
  have cA:=fun (R:Type) (K:IV→IM→Option R)=>callC_cw (call142 w a true h1 hw ha m0) (by rfl) K
  have cB:=fun (R:Type) (K:IV→IM→Option R)=>callC_cw (call142 w b true h1 hw hb m0) (by rfl) K
  have hz:=sval_zero hb h1 h0
  obtain⟨ka,hka⟩:=sval_mod w a
  obtain⟨kb,hkb⟩:=sval_mod w b
  have bA:=sval_bd w a h1 ha
  have bB:=sval_bd w b h1 hb
  have hp1:=pw1_lt w hw h1
  have hmk:b=maskN w→svalN w b=-1:=fun e=>by rw[e];exact sval_mask w h1
  generalize svalN w a=X at *
  generalize svalN w b=Y at *
  by_cases g:Y=-1
  ·obtain⟨D,k,d1,d2,d3⟩:=mask_mod (-X) w hw
   have gb:(Y == -1)=true:=by simpa using g
   obtain⟨k',hk'⟩:=cong4 ((2^w:Nat):Int) (-X) 0 X Y a b D 0 k 0 kb ka (by rw[g];omega) d2 (by omega) hkb hka
   refine⟨D,0,d1,Nat.two_pow_pos _,⟨k',hk'⟩,fun _ _=>rfl,?_⟩
   apply F79_call
   simp only[F79,go_sem,Bool.not_true,Bool.false_eq_true,if_false,cA,cB,gb,if_true,c37,wrap_wrap,d3]
   apply settle_id;rfl
  ·have gb:(Y == -1)=false:=by simpa using g
   have q1:(Int.tdiv X Y).natAbs≤X.natAbs:=by rw[Int.natAbs_tdiv];exact Nat.div_le_self _ _
   have q2:(Int.tmod X Y).natAbs≤X.natAbs:=by rw[Int.natAbs_tmod];exact Nat.mod_le _ _
   have hq:POp.ev (.bin .quo) [.int .i64 X,.int .i64 Y]=some (.int .i64 (Int.tdiv X Y)):=by
    have:¬(Int.tdiv X Y=9223372036854775808):=by
     intro e
     by_cases gy:Y=1
     ·rw[gy,Int.tdiv_one] at e
      omega
     ·have h3:(X.tdiv Y).natAbs=X.natAbs/Y.natAbs:=Int.natAbs_tdiv X Y
      have hy:2≤Y.natAbs:=by omega
      have h5:X.natAbs/Y.natAbs≤X.natAbs/2:=Nat.div_le_div_left hy (by decide)
      rw[←h3] at h5
      omega
    show (if Y=0 then none else some (IV.int .i64 (IntKind.i64.wrap (Int.tdiv X Y))))=_
    rw[if_neg hz,w64 (by omega) (by omega)]
   have hr:POp.ev (.bin .rem) [.int .i64 X,.int .i64 Y]=some (.int .i64 (Int.tmod X Y)):=by
    show (if Y=0 then none else some (IV.int .i64 (Int.tmod X Y)))=_
    rw[if_neg hz]
   obtain⟨D,k,d1,d2,d3⟩:=mask_mod (Int.tdiv X Y) w hw
   obtain⟨E,j,e1,e2,e3⟩:=mask_mod (Int.tmod X Y) w hw
   have hc:=cong4 ((2^w:Nat):Int) (Int.tdiv X Y) (Int.tmod X Y) X Y a b D E k j kb ka (Int.mul_tdiv_add_tmod X Y) d2 e2 hkb hka
   refine⟨D,E,d1,e1,hc,fun _ e=>absurd (hmk e) g,?_⟩
   apply F79_call
   simp only[F79,go_sem,Bool.not_true,Bool.false_eq_true,if_false,cA,cB,gb,c37,evC_of hq,evC_of hr,d3,e3]
   apply settle_id;rfl
theorem floored_dv (w a b:Nat) (sg:Bool) (hw:w≤64) (hs:sg=true→1≤w) (ha:a<2^w) (hb:b<2^w) (h0:b≠0):∃q r,DV 80 w sg a b q r:=by
 obtain⟨q,r,h1,h2,⟨k,h3⟩,h4,h5⟩:=divided_dv w a b sg hw hs ha hb h0
 have c79:=fun (R:Type) (K:IV→IM→Option R)=>callC_cw h5 (by rfl) K
 have c37:=fun (R:Type) (K:IV→IM→Option R)=>callC_cw (call37 w sg hw m0) (by rfl) K
 cases sg with
 |false =>
  refine⟨q,r,h1,h2,⟨k,h3⟩,h4,?_⟩
  apply F80_call
  simp only[F80,C80_c0,go_sem,c79,Bool.false_eq_true,if_false,if_true]
  apply settle_id;rfl
 |true =>
  have hw1:=hs rfl
  have cR:=fun (R:Type) (K:IV→IM→Option R)=>callC_cw (call142 w r true hw1 hw h2 m0) (by rfl) K
  have cB:=fun (R:Type) (K:IV→IM→Option R)=>callC_cw (call142 w b true hw1 hw hb m0) (by rfl) K
  by_cases g:r=0
  ·have gb:((r:Int) != 0)=false:=by subst g;rfl
   refine⟨q,r,h1,h2,⟨k,h3⟩,h4,?_⟩
   apply F80_call
   simp only[F80,C80_c0,go_sem,c79,Bool.false_eq_true,if_false,if_true,gb]
   apply settle_id;rfl
  ·have gb:((r:Int) != 0)=true:=by
    have:(r:Int)≠0:=by omega
    simpa using this
   cases gs:(!decide (svalN w r<0)==decide (svalN w b<0)) with
   |false =>
    refine⟨q,r,h1,h2,⟨k,h3⟩,h4,?_⟩
    apply F80_call
    simp only[F80,C80_c0,go_sem,c79,Bool.false_eq_true,if_false,if_true,gb,cR,cB,gs]
    apply settle_id;rfl
   |true =>
    obtain⟨D,k1,d1,d2,d3⟩:=mask_mod ((q:Int)-1) w hw
    obtain⟨E,k2,e1,e2,e3⟩:=mask_mod ((r:Int)+b) w hw
    refine⟨D,E,d1,e1,⟨k+k1*b+k2,?_⟩,fun _ e=>absurd (h4 rfl e) g,?_⟩
    ·rw[d2,e2]
     grind
    ·apply F80_call
     simp only[F80,C80_c0,go_sem,c79,Bool.false_eq_true,if_false,if_true,gb,cR,cB,gs,c37,d3,e3]
     apply settle_id;rfl
abbrev dDiv (f:Nat):IV:=.func 150 [] [.pI [.func f [] []] 0,.pI [.bool false] 0]
abbrev dRem (f:Nat):IV:=.func 152 [] [.pI [.func f [] []] 0]
theorem do_div0 (f w a:Nat) (sg:Bool):DO (dDiv f) w sg a 0 0 3:=by
 refine do_of (F150_call _ _ _ _ _ _ _ ?_) (by rfl)
 simp only[F150,go_sem]
 rfl
theorem do_rem0 (f w a:Nat) (sg:Bool):DO (dRem f) w sg a 0 0 3:=by
 refine do_of (F152_call _ _ _ _ _ _ ?_) (by rfl)
 simp only[F152,go_sem]
 rfl
theorem nz_b {b:Nat}(h:b≠0):((b:Int)==0)=false:=by
 have:(b:Int)≠0:=by omega
 simpa using this
theorem eq_b (x y:Nat):((x:Int)==(y:Int))=decide (x=y):=by
 by_cases h:x=y
 ·subst h;rw[decide_eq_true rfl];exact beq_self_eq_true _
 ·rw[decide_eq_false h]
  have:(x:Int)≠(y:Int):=by omega
  simpa using this
theorem dvC {f w a b q r:Nat}{sg:Bool}(h:DV f w sg a b q r) (R:Type) (K:IV→IM→Option R):callVC cw (.func f [] []) [.agg [.int .i64 (w:Int),.bool sg],.int .u64 (a:Int),.int .u64 (b:Int)] [] m0 K=K (.tup [.int .u64 (q:Int),.int .u64 (r:Int)]) m0:=callC_cw h.2.2.2.2 (by rfl) K
theorem do_rem {f w a b q r:Nat}{sg:Bool}(h0:b≠0) (h:DV f w sg a b q r):DO (dRem f) w sg a b r (-1):=by
 have c53:=fun (x:Int) (R:Type) (K:IV→IM→Option R)=>callC_cw (call53 x m0) (by rfl) K
 refine do_of (F152_call _ _ _ _ _ _ ?_) (by rfl)
 simp only[F152,go_sem,nz_b h0,Bool.false_eq_true,if_false,cutF,dvC h,c53]
 apply settle_id;rfl
theorem least_mul (w:Nat) (h1:1≤w):∃k:Int,((2^(w-1):Nat):Int)*((maskN w:Nat):Int)+((0:Nat):Int)=((2^(w-1):Nat):Int)+((2^w:Nat):Int)*k:=by
 have e3:2^w=2*2^(w-1):=by rw[←Nat.pow_succ'];congr 1;omega
 have hp:0<2^(w-1):=Nat.two_pow_pos _
 have hm:((maskN w:Nat):Int)=2*((2^(w-1):Nat):Int)-1:=by unfold maskN;omega
 have e4:((2^w:Nat):Int)=2*((2^(w-1):Nat):Int):=by omega
 rw[hm,e4]
 generalize ((2^(w-1):Nat):Int)=p
 refine⟨p-1,?_⟩
 grind
theorem do_div {f w a b q r:Nat}{sg:Bool}(hw:w≤64) (hs:sg=true→1≤w) (h0:b≠0) (h:DV f w sg a b q r) :
  ∃(x:Nat) (k:Int),(k=0∨k=-1)∧(∃j:Int,(x:Int)*b+r=a+((2^w:Nat):Int)*j)∧DO (dDiv f) w sg a b x k:=by
 have c52:=fun (b:Bool) (k x:Int) (R:Type) (K:IV→IM→Option R)=>callC_cw (call52 b k x m0) (by rfl) K
 have c37:=fun (R:Type) (K:IV→IM→Option R)=>callC_cw (call37 w sg hw m0) (by rfl) K
 have c151:=fun (R:Type) (K:IV→IM→Option R)=>callC_cw (call151 w sg hw hs) (by rfl) K
 have kF:∀(R:Type) (K:IV→Option R),cutC false [IV.bool false] 0 1 K=K (.bool false):=fun _ _=>cutC_false rfl _
 cases sg with
 |false =>
  refine⟨q,-1,.inr rfl,h.2.2.1,?_⟩
  refine do_of (F150_call _ _ _ _ _ _ _ ?_) (by rfl)
  simp only[F150,C150_c0,C150_c1,go_sem,nz_b h0,Bool.false_eq_true,if_false,if_true,cutF,dvC h,kF,c52]
  apply settle_id;rfl
 |true =>
  by_cases g1:a=2^(w-1)
  ·by_cases g2:b=maskN w
   ·have hr:=h.2.2.2.1 rfl g2
    refine⟨2^(w-1),0,.inl rfl,?_,?_⟩
    ·rw[hr,g2,g1]
     exact least_mul w (hs rfl)
    ·refine do_of (F150_call _ _ _ _ _ _ _ ?_) (by rfl)
     simp only[F150,C150_c0,go_sem,nz_b h0,Bool.false_eq_true,if_false,if_true,cutF,dvC h,c151,eq_b,decide_eq_true g1,c37,decide_eq_true g2]
     apply settle_id;rfl
   ·refine⟨q,-1,.inr rfl,h.2.2.1,?_⟩
    refine do_of (F150_call _ _ _ _ _ _ _ ?_) (by rfl)
    simp only[F150,C150_c0,C150_c1,go_sem,nz_b h0,Bool.false_eq_true,if_false,if_true,cutF,dvC h,c151,eq_b,decide_eq_true g1,c37,decide_eq_false g2,kF,c52]
    apply settle_id;rfl
  ·refine⟨q,-1,.inr rfl,h.2.2.1,?_⟩
   refine do_of (F150_call _ _ _ _ _ _ _ ?_) (by rfl)
   simp only[F150,C150_c0,C150_c1,go_sem,nz_b h0,Bool.false_eq_true,if_false,if_true,cutF,dvC h,c151,eq_b,decide_eq_false g1,kF,c52]
   apply settle_id;rfl
def isD (g f:Nat):Option RW→Bool
 |some (_,fm,k,.func g' [] [.pI [.func f' [] []] 0])=>Nat.beq g' g&&(Nat.beq f' f&&(decide (fm≠1)&&decide (k.refs=some 0)))
 |_=>false
def isDv (f:Nat):Option RW→Bool
 |some (_,fm,k,.func 150 [] [.pI [.func f' [] []] 0,.pI [.bool false] 0])=>Nat.beq f' f&&(decide (fm≠1)&&decide (k.refs=some 0))
 |_=>false
theorem isD_s {g f:Nat}{o:Option RW}(h:isD g f o=true):∃op fm k,o=some (op,fm,k,.func g [] [.pI [.func f [] []] 0])∧fm≠1∧k.refs=some 0:=by
 unfold isD at h
 split at h
 ·simp only[Bool.and_eq_true,decide_eq_true_eq] at h
  obtain⟨h1,h2,h3,h4⟩:=h
  have h1:=Nat.eq_of_beq_eq_true h1
  have h2:=Nat.eq_of_beq_eq_true h2
  subst h1 h2
  exact⟨_,_,_,rfl,h3,h4⟩
 ·cases h
theorem isDv_s {f:Nat}{o:Option RW}(h:isDv f o=true):∃op fm k,o=some (op,fm,k,dDiv f)∧fm≠1∧k.refs=some 0:=by
 unfold isDv at h
 split at h
 ·simp only[Bool.and_eq_true,decide_eq_true_eq] at h
  obtain⟨h2,h3,h4⟩:=h
  have h2:=Nat.eq_of_beq_eq_true h2
  subst h2
  exact⟨_,_,_,rfl,h3,h4⟩
 ·cases h
def rowsD (rs:List RW):Bool:=(isD 140 72 (fnd rs 6)&&(isD 140 73 (fnd rs 7)&&isD 140 74 (fnd rs 8)))&&((isD 146 72 (fnd rs 9)&&(isD 146 73 (fnd rs 10)&&isD 146 74 (fnd rs 11))) &&
 ((isD 147 72 (fnd rs 12)&&(isD 147 73 (fnd rs 13)&&isD 147 74 (fnd rs 14)))&&((isD 149 72 (fnd rs 15)&&(isD 149 73 (fnd rs 16)&&isD 149 74 (fnd rs 17))) &&
 ((isDv 79 (fnd rs 18)&&isDv 80 (fnd rs 19))&&(isD 152 79 (fnd rs 21)&&isD 152 80 (fnd rs 22))))))
theorem rows_d:rowsD rsQ=true:=by kernel_rfl
abbrev ckF (s:List UInt8):IV:=.func 18 [] [.pI [.str s] 0]
theorem call18 {s:List UInt8}{w:Nat}{sg:Bool}(hs:tyR s=(0,(w:Int),sg)) (hw:w≤64) (x:Nat) (hx:x<2^w) (m:IM):cw (.f 18) [.int .u64 (x:Int),.pI [.str s] 0] m=some (.bool true,m):=by
 have hp:=pw_lt w hw
 have h19:=call19 s x m
 rw[hs] at h19
 have c19:=fun (R:Type) (K:IV→IM→Option R)=>callC_cw h19 (by rfl) K
 have h20:=call20 (sg:=sg) (s:=s) (fl_ty (ty_ok hs)) hw x (by omega) m
 rw[decide_eq_true hx] at h20
 have c20:=fun (R:Type) (K:IV→IM→Option R)=>callC_cw h20 (by rfl) K
 have k0:=fun (R:Type) (K:IV→Option R)=>cutC_false (cs:=[.str s]) (off:=0) (n:=1) (v:=.str s) rfl K
 apply F18_call
 simp only[F18,go_sem,k0,c19,c20]
abbrev bxB (a b:Bool):IM:=⟨[.cells [.bool a,.bool b] [.any,.any]],0⟩
theorem call17 {s:List UInt8}{w:Nat}{sg:Bool}(hs:tyR s=(0,(w:Int),sg)) (hw:w≤64) (a b:Nat) (ha:a<2^w) (hb:b<2^w):cw (.f 17) [.sl [.int .u64 (a:Int),.int .u64 (b:Int)] 2,ckF s] m0=some (.sl [.bool true,.bool true] 2,m0):=by
 have cv:∀(x:Int) (R:Type) (m:IM) (K:IV→IM→Option R),callVC cw (ckF s) [.int .u64 x] [] m K=callC cw (.f 18) [.int .u64 x,.pI [.str s] 0] [] m K:=fun _ _ _ _=>rfl
 have cA:=fun (m:IM) (R:Type) (K:IV→IM→Option R)=>callC_cw (call18 hs hw a ha m) (by rfl) K
 have cB:=fun (m:IM) (R:Type) (K:IV→IM→Option R)=>callC_cw (call18 hs hw b hb m) (by rfl) K
 have hlen:POp.ev .lenSlice [.sl [.int .u64 (a:Int),.int .u64 (b:Int)] 2]=some (.int .i64 2):=rfl
 have hi0:POp.ev (.indexS 1) [.sl [.int .u64 (a:Int),.int .u64 (b:Int)] 2,.int .i64 0]=some (.pI [.int .u64 (a:Int),.int .u64 (b:Int)] 0):=ix2o _ _ 0 (by decide)
 have hi1:POp.ev (.indexS 1) [.sl [.int .u64 (a:Int),.int .u64 (b:Int)] 2,.int .i64 1]=some (.pI [.int .u64 (a:Int),.int .u64 (b:Int)] 1):=ix2o _ _ 1 (by decide)
 have k0:=fun (R:Type) (K:IV→Option R)=>cutC_false (cs:=[.int .u64 (a:Int),.int .u64 (b:Int)]) (off:=0) (n:=1) (v:=.int .u64 (a:Int)) rfl K
 have k1:=fun (R:Type) (K:IV→Option R)=>cutC_false (cs:=[.int .u64 (a:Int),.int .u64 (b:Int)]) (off:=1) (n:=1) (v:=.int .u64 (b:Int)) rfl K
 have s0:POp.ev (.indexS 1) [.sB 0 0 2 1,.int .i64 0]=some (.pB 0 0):=idx_sB 0 2 0 (by decide)
 have s1:POp.ev (.indexS 1) [.sB 0 0 2 1,.int .i64 1]=some (.pB 0 1):=idx_sB 0 2 1 (by decide)
 have t0:∀(R:Type) (K:IM→Option R),stP (bxB false false) (.pB 0 0) [.bool true] .any K=K (bxB true false):=fun _ _=>rfl
 have t1:∀(R:Type) (K:IM→Option R),stP (bxB true false) (.pB 0 1) [.bool true] .any K=K (bxB true true):=fun _ _=>rfl
 have kp:∀(R:Type) (X:Option R),keepC (ckF s) [] X=X:=fun _ _=>rfl
 have nl:∀(R:Type) (X:Option R),notL (.sl [.int .u64 (a:Int),.int .u64 (b:Int)] 2) X=X:=fun _ _=>rfl
 have ns:∀(R:Type) (X:Option R),notL (.sB 0 0 2 1) X=X:=fun _ _=>rfl
 have w1:IntKind.i64.wrap (0+1)=1:=rfl
 have w2:IntKind.i64.wrap (1+1)=2:=rfl
 have d0:decide ((0:Int)<2)=true:=rfl
 have d1:decide ((1:Int)<2)=true:=rfl
 have d2:decide ((2:Int)<2)=false:=rfl
 have f1:L17_0 (ckF s) (.sB 0 0 2 1) (.sl [.int .u64 (a:Int),.int .u64 (b:Int)] 2) 2 0 (bxB false false)=L17_0 (ckF s) (.sB 0 0 2 1) (.sl [.int .u64 (a:Int),.int .u64 (b:Int)] 2) 2 1 (bxB true false):=by
  rw[L17_0_eq]
  unfold B17_0
  rw[d0,iteC_if,if_pos rfl,evC_of hi0,ldP_pI,k0,asI_mk,cv,cA,asB_mk,evC_of s0,t0,kp,ns,nl,nxt_inl,w1]
  rfl
 have f2:L17_0 (ckF s) (.sB 0 0 2 1) (.sl [.int .u64 (a:Int),.int .u64 (b:Int)] 2) 2 1 (bxB true false)=L17_0 (ckF s) (.sB 0 0 2 1) (.sl [.int .u64 (a:Int),.int .u64 (b:Int)] 2) 2 2 (bxB true true):=by
  rw[L17_0_eq]
  unfold B17_0
  rw[d1,iteC_if,if_pos rfl,evC_of hi1,ldP_pI,k1,asI_mk,cv,cB,asB_mk,evC_of s1,t1,kp,ns,nl,nxt_inl,w2]
  rfl
 have f3:L17_0 (ckF s) (.sB 0 0 2 1) (.sl [.int .u64 (a:Int),.int .u64 (b:Int)] 2) 2 2 (bxB true true)=some (.exit 0,[.sB 0 0 2 1],[],bxB true true):=by
  rw[L17_0_eq]
  unfold B17_0
  rw[d2,iteC_if,if_neg (by decide),nxt_inr]
 have hg:decide ((0:Int)≤2∧(2:Int)≤2∧(2:Int)*1≤(maxLenI:Int)∧(2:Int)≤(maxLenI:Int))=true:=by decide
 apply F17_call
 unfold F17
 rw[evC_of hlen,asI_mk,hg,grd_if,if_pos rfl,evC_of hlen,asI_mk,kp,nl]
 refine (congrArg (fun z=>bindX z _) ((f1.trans f2).trans f3)).trans ?_
 rw[bindX_mk,exC_if,if_pos rfl,unc_cons,unn_nil,unbn_nil]
 rfl
theorem call21:cw (.f 21) [.sl [.bool true,.bool true] 2,.bool false] m0=some (.bool false,m0):=callW_iff.2 ⟨20,by kernel_rfl⟩
theorem call8 {s:List UInt8}{w:Nat}{sg:Bool}(hs:tyR s=(0,(w:Int),sg)) (hw:w≤64) {op:Int}(ho:0≤op) (ho2:op<70) {op' fm:Int}{k d:IV}(hr:fnd rsQ op=some (op',fm,k,d)) (hf:fm≠1) (hk:k.refs=some 0) (hd:d.refs=some 0)
  (ht:takP op false true sg (Int.tmod (w:Int) 8==0)=true) {a b x:Nat}{kd:Int}(ha:a<2^w) (hb:b<2^w) (hD:DO d w sg a b x kd) :
  cw (.f 8) [.int .i64 op,.str s,.int .u64 (a:Int),.int .u64 (b:Int)] m0=some (.tup [.int .u64 (x:Int),.int .i64 kd,.int .i64 0],m0):=by
 have hok:=ty_ok hs
 have h15:=call15 op s
 rw[fl_ty hok,hok,hs,ht] at h15
 have c15:=fun (R:Type) (K:IV→IM→Option R)=>callC_cw h15 (by rfl) K
 have h16:=call16 op
 rw[hr] at h16
 simp only[rowC] at h16
 have c16:=fun (R:Type) (K:IV→IM→Option R)=>callC_cw h16 (by rfl) K
 have c17:=fun (R:Type) (K:IV→IM→Option R)=>callC_cw (call17 hs hw a b ha hb) (by rfl) K
 have c21:=fun (R:Type) (K:IV→IM→Option R)=>callC_cw call21 (by rfl) K
 have h22:=call22 s m0
 rw[fl_ty hok] at h22
 have c22:=fun (R:Type) (K:IV→IM→Option R)=>callC_cw h22 (by rfl) K
 have h19:=call19 s a m0
 rw[hs] at h19
 have c19:=fun (R:Type) (K:IV→IM→Option R)=>callC_cw h19 (by rfl) K
 have k0:=fun (R:Type) (K:IV→Option R)=>cutC_false (cs:=[.str s]) (off:=0) (n:=1) (v:=.str s) rfl K
 have d1:decide (op<0)=false:=decide_eq_false (by omega)
 have d2:decide (op≥70)=false:=decide_eq_false (by omega)
 have d3:(fm==1)=false:=by simpa using hf
 have mk:POp.ev (.mkFunc 18 0) [.pI [.str s] 0]=some (ckF s):=rfl
 have rk:=fun (R:Type) (X:Option R)=>refC_of (R:=R) hk X
 have rd:=fun (R:Type) (X:Option R)=>refC_of (R:=R) hd X
 apply F8_call
 simp only[F8,C8_c0,C8_c1,go_sem,d1,d2,Bool.false_eq_true,if_false,if_true,k0,c15,Bool.not_true,c16,rk,rd,d3,evC_of mk,c17,c21,c22,c19]
 refine (hD _ _).trans ?_
 simp only[go_sem]
 apply settle_id;rfl
theorem call4 (a:List UInt8) (m:IM):∃r:Bool,cw (.f 4) [.sl [.str a] 1] m=some (.bool r,m):=by
 have d0:decide ((0:Int)<1)=true:=rfl
 have d1:decide ((1:Int)<1)=false:=rfl
 have w1:IntKind.i64.wrap (0+1)=1:=rfl
 have hlen:POp.ev .lenSlice [.sl [.str a] 1]=some (.int .i64 1):=rfl
 have i0:POp.ev (.indexS 1) [.sl [.str a] 1,.int .i64 0]=some (.pI [.str a] 0):=rfl
 have k0:=fun (R:Type) (K:IV→Option R)=>cutC_false (cs:=[.str a]) (off:=0) (n:=1) (v:=.str a) rfl K
 have nl:∀(R:Type) (X:Option R),notL (.sl [.str a] 1) X=X:=fun _ _=>rfl
 have f2:L4_0 (.sl [.str a] 1) 1 1 m=some (.exit 0,[],[],m):=by
  rw[L4_0_eq]
  simp only[B4_0,go_sem,d1,Bool.false_eq_true,if_false]
 have f1:L4_0 (.sl [.str a] 1) 1 0 m=if ((a.length:Int)>300) then some (.ret,[.bool false],[],m) else some (.exit 0,[],[],m):=by
  rw[L4_0_eq,←f2]
  by_cases g:((a.length:Int)>300)
  ·simp only[B4_0,go_sem,d0,if_true,evC_of i0,k0,g,decide_true]
  ·simp only[B4_0,go_sem,d0,if_true,evC_of i0,k0,g,decide_false,Bool.false_eq_true,if_false,nl,w1]
   rfl
 by_cases g:((a.length:Int)>300)
 ·rw[if_pos g] at f1
  refine⟨false,?_⟩
  apply F4_call
  simp only[F4,go_sem,evC_of hlen,nl,f1,reduceCtorEq,if_false,if_true]
 ·rw[if_neg g] at f1
  refine⟨true,?_⟩
  apply F4_call
  simp only[F4,go_sem,evC_of hlen,nl,f1,reduceCtorEq,if_false,if_true]
theorem wid_ok {s:List UInt8}(h:(widR s).2=0) (h1:¬s=[112,116,114]) (h2:¬s=[102,51,50]) (h3:¬s=[102,54,52]):tyOk s=true:=by
 unfold widR at h
 rw[if_neg h1,if_neg h2,if_neg h3] at h
 unfold tyOk
 apply decide_eq_true
 split at h
 ·rename_i q;exact q
 ·simp at h
theorem c0_3 (s:List UInt8) (x y:Int):∃g:Bool,C3_c0 s x y m0=some (.normal,[.str s,.bool g],[.cells [.int .u64 x,.int .u64 y] [.any,.any]],m0)∧(g=false→tyOk s=true):=by
 obtain⟨r,h4⟩:=call4 s m0
 have c4:=fun (R:Type) (K:IV→IM→Option R)=>callC_cw h4 (by rfl) K
 have c5:=fun (R:Type) (K:IV→IM→Option R)=>callC_cw (call5 s m0) (by rfl) K
 cases r with
 |false=>exact⟨true,by simp only[C3_c0,go_sem,c4,Bool.not_false,if_true],fun h=>by cases h⟩
 |true =>
  by_cases h1:s=[112,116,114]
  ·have b1:(s==[112,116,114])=true:=beq_iff_eq.2 h1
   exact⟨true,by simp only[C3_c0,go_sem,c4,Bool.not_true,Bool.false_eq_true,if_false,b1,if_true],fun h=>by cases h⟩
  have b1:(s==[112,116,114])=false:=beq_eq_false_iff_ne.2 h1
  by_cases h2:s=[102,51,50]
  ·have b2:(s==[102,51,50])=true:=beq_iff_eq.2 h2
   exact⟨true,by simp only[C3_c0,go_sem,c4,Bool.not_true,Bool.false_eq_true,if_false,b1,b2,if_true],fun h=>by cases h⟩
  have b2:(s==[102,51,50])=false:=beq_eq_false_iff_ne.2 h2
  by_cases h3:s=[102,54,52]
  ·have b3:(s==[102,54,52])=true:=beq_iff_eq.2 h3
   exact⟨true,by simp only[C3_c0,go_sem,c4,Bool.not_true,Bool.false_eq_true,if_false,b1,b2,b3,if_true],fun h=>by cases h⟩
  have b3:(s==[102,54,52])=false:=beq_eq_false_iff_ne.2 h3
  refine⟨(widR s).2 != 0,by simp only[C3_c0,go_sem,c4,Bool.not_true,Bool.false_eq_true,if_false,b1,b2,b3,c5],fun h=>?_⟩
  have:(widR s).2=0:=by simpa using h
  exact wid_ok this h1 h2 h3
theorem c1_3 (s:List UInt8) (w:Nat) (hw:w≤64) (x y:Int):C3_c1 s (w:Int) 18446744073709551615 x y m0=some (.normal,[.str s,.int .u64 ((maskN w:Nat):Int)],[.cells [.int .u64 x,.int .u64 y] [.any,.any]],m0):=by
 by_cases g:w<64
 ·have c:decide ((w:Int)<64)=true:=decide_eq_true (by omega)
  have e:IntKind.u64.wrap (((2^w:Nat):Int)-1)=((maskN w:Nat):Int):=by
   have hp:0<2^w:=Nat.two_pow_pos _
   have:=pw_lt w hw
   unfold maskN
   rw[wu64 (by omega) (by omega)]
   omega
  simp only[C3_c1,go_sem,c,if_true,evC_of (shl_ev w (by omega)),e]
 ·have c:decide ((w:Int)<64)=false:=decide_eq_false (by omega)
  have e:w=64:=by omega
  subst e
  simp only[C3_c1,go_sem,c,Bool.false_eq_true,if_false]
  rfl
theorem andn_f (w x:Nat) (hw:w≤64) (hx:x<2^w):(andnU (x:Int) ((maskN w:Nat):Int) != 0)=false:=by
 have hp:=pw_lt w hw
 have:=andNot_z x w (by omega) hw
 rw[decide_eq_true hx] at this
 unfold bne
 rw[this];rfl
theorem round0 {s:List UInt8}{w a b X Y:Nat}{ov:Bool}(hw:w≤64) (hX:X<2^w) (hY:Y<2^w) (hov:ov=false→Y=X) (i o1 o2 o3 o4:Int) (hi:decide (i<3)=true) (w1:IntKind.i64.wrap (6+i)=o1) (w2:IntKind.i64.wrap (9+i)=o2) (w3:IntKind.i64.wrap (12+i)=o3) (w4:IntKind.i64.wrap (15+i)=o4)
  (h1:cw (.f 8) [.int .i64 o1,.str s,.int .u64 (a:Int),.int .u64 (b:Int)] m0=some (.tup [.int .u64 (X:Int),.int .i64 (if ov then 0 else -1),.int .i64 0],m0))
  (h2:cw (.f 8) [.int .i64 o2,.str s,.int .u64 (a:Int),.int .u64 (b:Int)] m0=some (.tup [.int .u64 (X:Int),.int .i64 (-1),.int .i64 0],m0))
  (h3:cw (.f 8) [.int .i64 o3,.str s,.int .u64 (a:Int),.int .u64 (b:Int)] m0=some (.tup [.int .u64 (Y:Int),.int .i64 (-1),.int .i64 0],m0))
  (h4:cw (.f 8) [.int .i64 o4,.str s,.int .u64 (a:Int),.int .u64 (b:Int)] m0=some (.tup [.int .u64 ((if ov then 1 else 0:Nat):Int),.int .i64 (-1),.int .i64 0],m0)) :
  L3_0 s ((maskN w:Nat):Int) a b i m0=L3_0 s ((maskN w:Nat):Int) a b (IntKind.i64.wrap (i+1)) m0:=by
 have c1:=fun (R:Type) (K:IV→IM→Option R)=>callC_cw h1 (by rfl) K
 have c2:=fun (R:Type) (K:IV→IM→Option R)=>callC_cw h2 (by rfl) K
 have c3:=fun (R:Type) (K:IV→IM→Option R)=>callC_cw h3 (by rfl) K
 have c4:=fun (R:Type) (K:IV→IM→Option R)=>callC_cw h4 (by rfl) K
 have nX:=andn_f w X hw hX
 have nY:=andn_f w Y hw hY
 rw[L3_0_eq]
 cases ov with
 |true =>
  simp only[B3_0,C3_c2,C3_c3,go_sem,hi,if_true,w1,w2,w3,w4,c1,c2,c3,c4,bne_self_eq_false,Bool.false_eq_true,if_false,nX,nY]
  rfl
 |false =>
  have e:=hov rfl
  subst e
  simp only[B3_0,C3_c2,C3_c3,go_sem,hi,if_true,w1,w2,w3,w4,c1,c2,c3,c4,bne_self_eq_false,Bool.false_eq_true,if_false,nX]
  rfl
abbrev opsV:IV:=.sl [.int .i64 18,.int .i64 21,.int .i64 19,.int .i64 22] 2
theorem round1 {s:List UInt8}{w a b q r:Nat}{k:Int}(hw:w≤64) (ha:a<2^w) (i o1 o2:Int) (off:Nat) (hi:decide (i<2)=true)
  (hx:POp.ev (.indexS 2) [opsV,.int .i64 i]=some (.pI [.int .i64 18,.int .i64 21,.int .i64 19,.int .i64 22] off)) (hc:cut [.int .i64 18,.int .i64 21,.int .i64 19,.int .i64 22] off 2=some [.int .i64 o1,.int .i64 o2])
  (h1:cw (.f 8) [.int .i64 o1,.str s,.int .u64 (a:Int),.int .u64 (b:Int)] m0=some (.tup [.int .u64 (q:Int),.int .i64 (if b=0 then 3 else k),.int .i64 0],m0))
  (h2:cw (.f 8) [.int .i64 o2,.str s,.int .u64 (a:Int),.int .u64 (b:Int)] m0=some (.tup [.int .u64 (r:Int),.int .i64 (if b=0 then 3 else -1),.int .i64 0],m0))
  (hk:k=0∨k=-1) (hq:b≠0→∃j:Int,(q:Int)*b+r=a+((2^w:Nat):Int)*j) :
  L3_1 s ((maskN w:Nat):Int) a b opsV 2 i m0=L3_1 s ((maskN w:Nat):Int) a b opsV 2 (IntKind.i64.wrap (i+1)) m0:=by
 have c1:=fun (R:Type) (K:IV→IM→Option R)=>callC_cw h1 (by rfl) K
 have c2:=fun (R:Type) (K:IV→IM→Option R)=>callC_cw h2 (by rfl) K
 have kc:=fun (R:Type) (K:IV→Option R)=>cutC_true hc K
 have nl:∀(R:Type) (X:Option R),notL opsV X=X:=fun _ _=>rfl
 rw[L3_1_eq]
 by_cases g:b=0
 ·rw[if_pos g] at c1
  rw[if_pos g] at c2
  have b0:((b:Int)==0)=true:=by subst g;rfl
  have b1:((b:Int) != 0)=false:=by subst g;rfl
  simp only[B3_1,C3_c4,C3_c5,go_sem,hi,if_true,evC_of hx,kc,c1,c2,bne_self_eq_false,Bool.false_eq_true,if_false,beq_self_eq_true,Bool.not_true,b0,b1,nl]
  rfl
 ·rw[if_neg g] at c1
  rw[if_neg g] at c2
  have b0:((b:Int)==0)=false:=nz_b g
  have b1:((b:Int) != 0)=true:=by unfold bne;rw[b0];rfl
  have k3:(k==3)=false:=by rcases hk with rfl | rfl<;>rfl
  have k4:((-1:Int)==3)=false:=rfl
  have k5:(!(false==false))=false:=rfl
  obtain⟨j,hj⟩:=hq g
  have hz:=qbr w a b q r hw ha j hj
  simp only[B3_1,C3_c4,C3_c5,go_sem,hi,if_true,evC_of hx,kc,c1,c2,bne_self_eq_false,Bool.false_eq_true,if_false,b0,b1,k3,k4,k5,nl,hz]
  rfl
theorem back {w:Nat}{sg:Bool}(h1:sg=true→1≤w) {z:Int}(h:inZ w sg z=true):∃n:Nat,z%((2^w:Nat):Int)=(n:Int)∧n<2^w∧valT w sg n=z:=by
 have hp:0<2^w:=Nat.two_pow_pos _
 have h:=of_decide_eq_true h
 obtain⟨l1,l2⟩:=h
 cases sg with
 |false =>
  have l1:(0:Int)≤z:=l1
  have l2:z≤((2^w-1:Nat):Int):=l2
  obtain⟨n,rfl⟩:=Int.eq_ofNat_of_zero_le l1
  exact⟨n,by rw[Int.emod_eq_of_lt (by omega) (by omega)],by omega,rfl⟩
 |true =>
  have hw:=h1 rfl
  have l1:-((2^(w-1):Nat):Int)≤z:=l1
  have l2:z≤((2^(w-1)-1:Nat):Int):=l2
  have e3:2^w=2*2^(w-1):=by rw[←Nat.pow_succ'];congr 1;omega
  have c1:((2:Int)^w)=((2^w:Nat):Int):=by norm_cast
  have hv:∀n,valT w true n=svalN w n:=fun _=>rfl
  simp only[hv]
  unfold svalN
  rw[c1]
  have hp1:0<2^(w-1):=Nat.two_pow_pos _
  generalize 2^(w-1)=q at *
  generalize 2^w=W at *
  by_cases g:0≤z
  ·obtain⟨n,rfl⟩:=Int.eq_ofNat_of_zero_le g
   exact⟨n,by rw[Int.emod_eq_of_lt (by omega) (by omega)],by omega,by rw[if_pos (by omega)]⟩
  ·refine⟨(z+W).toNat,?_,by omega,by rw[if_neg (by omega)];omega⟩
   rw[show z%(W:Int)=(z+W)%(W:Int) by rw[Int.add_emod_right],Int.emod_eq_of_lt (by omega) (by omega)]
   omega
abbrev tosL:List IV:=[.str [117,56],.str [105,56],.str [117,51,50],.str [105,54,52],.str [117,49]]
abbrev tosV:IV:=.sl tosL 5
theorem round2 {s t:List UInt8}{w w2:Nat}{sg sg2:Bool}(hs:tyR s=(0,(w:Int),sg)) (hw:w≤64) (h1:sg=true→1≤w) (ht:tyR t=(0,(w2:Int),sg2)) (hw2:w2≤64) (h2:sg2=true→1≤w2) (x:Nat) (hx:x<2^w)
  (i:Int) (off:Nat) (hi:decide (i<5)=true) (hix:POp.ev (.indexS 1) [tosV,.int .i64 i]=some (.pI tosL off)) (hc:tosL[off]?=some (.str t)) :
  L3_2 s x tosV 5 i m0=L3_2 s x tosV 5 (IntKind.i64.wrap (i+1)) m0:=by
 have k0:=fun (R:Type) (K:IV→Option R)=>cutC_false (n:=1) hc K
 have cA:=fun (R:Type) (K:IV→IM→Option R)=>callC_cw (call9b hs hw h1 ht hw2 h2 x hx) (by rfl) K
 have cB:=fun (R:Type) (K:IV→IM→Option R)=>callC_cw (call9a hs hw h1 ht hw2 h2 x hx) (by rfl) K
 have cT:=fun (R:Type) (K:IV→IM→Option R)=>callC_cw (call10 hs hw h1 x hx) (by rfl) K
 have nl:∀(R:Type) (X:Option R),notL tosV X=X:=fun _ _=>rfl
 have b1:((-1:Int) == -1)=true:=rfl
 have b2:((5:Int) == -1)=false:=rfl
 rw[L3_2_eq]
 cases g:inZ w2 sg2 (valT w sg x) with
 |true =>
  obtain⟨n,e1,e2,e3⟩:=back h2 g
  rw[g,e1] at cA
  rw[g] at cB
  have hT:=call10 ht hw2 h2 n e2
  rw[e3] at hT
  have cT2:=fun (R:Type) (K:IV→IM→Option R)=>callC_cw hT (by rfl) K
  simp only[B3_2,C3_c8,C3_c6,C3_c7,go_sem,hi,if_true,evC_of hix,k0,cA,cB,bne_self_eq_false,Bool.false_eq_true,if_false,cT,b1,cT2,beq_self_eq_true,Bool.not_true,reduceCtorEq,nl]
  rfl
 |false =>
  rw[g] at cA
  rw[g] at cB
  have b3:((((0:Nat):Int))==1)=false:=rfl
  have b4:(((0:Int))==1)=false:=rfl
  simp only[B3_2,C3_c8,C3_c6,C3_c7,go_sem,hi,if_true,evC_of hix,k0,cA,cB,bne_self_eq_false,Bool.false_eq_true,if_false,cT,b2,b4,beq_self_eq_true,Bool.not_true,reduceCtorEq,nl]
  rfl
theorem ak0:cw (.f 8) [.int .i64 6,.str [105,56],.int .u64 127,.int .u64 1] ⟨[],0⟩=some (.tup [.int .u64 128,.int .i64 0,.int .i64 0],⟨[],0⟩):=cw_of 400 (by kernel_rfl)
theorem ak1:cw (.f 8) [.int .i64 12,.str [105,56],.int .u64 127,.int .u64 1] ⟨[],0⟩=some (.tup [.int .u64 127,.int .i64 (-1),.int .i64 0],⟨[],0⟩):=cw_of 400 (by kernel_rfl)
theorem ak2:cw (.f 8) [.int .i64 15,.str [105,56],.int .u64 127,.int .u64 1] ⟨[],0⟩=some (.tup [.int .u64 1,.int .i64 (-1),.int .i64 0],⟨[],0⟩):=cw_of 400 (by kernel_rfl)
theorem ak3:cw (.f 8) [.int .i64 18,.str [105,56],.int .u64 128,.int .u64 255] ⟨[],0⟩=some (.tup [.int .u64 128,.int .i64 0,.int .i64 0],⟨[],0⟩):=cw_of 400 (by kernel_rfl)
theorem ak4:cw (.f 8) [.int .i64 21,.str [105,56],.int .u64 128,.int .u64 255] ⟨[],0⟩=some (.tup [.int .u64 0,.int .i64 (-1),.int .i64 0],⟨[],0⟩):=cw_of 400 (by kernel_rfl)
theorem ak5:cw (.f 8) [.int .i64 20,.str [117,56],.int .u64 7,.int .u64 2] ⟨[],0⟩=some (.tup [.int .u64 3,.int .i64 4,.int .i64 0],⟨[],0⟩):=cw_of 400 (by kernel_rfl)
theorem ak6:cw (.f 8) [.int .i64 18,.str [117,56],.int .u64 7,.int .u64 0] ⟨[],0⟩=some (.tup [.int .u64 0,.int .i64 3,.int .i64 0],⟨[],0⟩):=cw_of 400 (by kernel_rfl)
theorem ak7:cw (.f 8) [.int .i64 23,.str [117,56],.int .u64 129,.int .u64 1] ⟨[],0⟩=some (.tup [.int .u64 2,.int .i64 (-1),.int .i64 0],⟨[],0⟩):=cw_of 400 (by kernel_rfl)
theorem ak8:cw (.f 8) [.int .i64 24,.str [117,56],.int .u64 129,.int .u64 1] ⟨[],0⟩=some (.tup [.int .u64 2,.int .i64 2,.int .i64 0],⟨[],0⟩):=cw_of 400 (by kernel_rfl)
theorem ak9:cw (.f 8) [.int .i64 23,.str [117,56],.int .u64 129,.int .u64 8] ⟨[],0⟩=some (.tup [.int .u64 0,.int .i64 1,.int .i64 0],⟨[],0⟩):=cw_of 400 (by kernel_rfl)
theorem ak10:cw (.f 8) [.int .i64 25,.str [105,56],.int .u64 254,.int .u64 1] ⟨[],0⟩=some (.tup [.int .u64 255,.int .i64 (-1),.int .i64 0],⟨[],0⟩):=cw_of 400 (by kernel_rfl)
theorem ak11:cw (.f 9) [.int .i64 38,.str [105,49,54],.str [117,56],.int .u64 300] ⟨[],0⟩=some (.tup [.int .u64 44,.int .i64 5,.int .i64 0],⟨[],0⟩):=cw_of 400 (by kernel_rfl)
theorem ak12:cw (.f 11) [.int .i64 9] ⟨[],0⟩=some (.tup [.str [97,100,100,119,114,97,112],.int .i64 0],⟨[],0⟩):=cw_of 2000 (by kernel_rfl)
theorem ak13:cw (.f 12) [.int .i64 34] ⟨[],0⟩=some (.tup [.int .i64 3,.int .i64 0],⟨[],0⟩):=cw_of 400 (by kernel_rfl)
def akL:List (Nat×List IV×IV):=[(8,[.int .i64 6,.str [105,56],.int .u64 127,.int .u64 1],.tup [.int .u64 128,.int .i64 0,.int .i64 0]),(8,[.int .i64 12,.str [105,56],.int .u64 127,.int .u64 1],.tup [.int .u64 127,.int .i64 (-1),.int .i64 0]),(8,[.int .i64 15,.str [105,56],.int .u64 127,.int .u64 1],.tup [.int .u64 1,.int .i64 (-1),.int .i64 0]),(8,[.int .i64 18,.str [105,56],.int .u64 128,.int .u64 255],.tup [.int .u64 128,.int .i64 0,.int .i64 0]),(8,[.int .i64 21,.str [105,56],.int .u64 128,.int .u64 255],.tup [.int .u64 0,.int .i64 (-1),.int .i64 0]),(8,[.int .i64 20,.str [117,56],.int .u64 7,.int .u64 2],.tup [.int .u64 3,.int .i64 4,.int .i64 0]),(8,[.int .i64 18,.str [117,56],.int .u64 7,.int .u64 0],.tup [.int .u64 0,.int .i64 3,.int .i64 0]),(8,[.int .i64 23,.str [117,56],.int .u64 129,.int .u64 1],.tup [.int .u64 2,.int .i64 (-1),.int .i64 0]),(8,[.int .i64 24,.str [117,56],.int .u64 129,.int .u64 1],.tup [.int .u64 2,.int .i64 2,.int .i64 0]),(8,[.int .i64 23,.str [117,56],.int .u64 129,.int .u64 8],.tup [.int .u64 0,.int .i64 1,.int .i64 0]),(8,[.int .i64 25,.str [105,56],.int .u64 254,.int .u64 1],.tup [.int .u64 255,.int .i64 (-1),.int .i64 0]),(9,[.int .i64 38,.str [105,49,54],.str [117,56],.int .u64 300],.tup [.int .u64 44,.int .i64 5,.int .i64 0]),(11,[.int .i64 9],.tup [.str [97,100,100,119,114,97,112],.int .i64 0]),(12,[.int .i64 34],.tup [.int .i64 3,.int .i64 0])]
theorem ak_ok:okL akL:=by
 intro f as v h
 simp only[akL,List.mem_cons,Prod.mk.injEq,List.not_mem_nil,or_false] at h
 rcases h with ⟨rfl,rfl,rfl⟩ | ⟨rfl,rfl,rfl⟩ | ⟨rfl,rfl,rfl⟩ | ⟨rfl,rfl,rfl⟩ | ⟨rfl,rfl,rfl⟩ | ⟨rfl,rfl,rfl⟩ | ⟨rfl,rfl,rfl⟩ | ⟨rfl,rfl,rfl⟩ | ⟨rfl,rfl,rfl⟩ | ⟨rfl,rfl,rfl⟩ | ⟨rfl,rfl,rfl⟩ | ⟨rfl,rfl,rfl⟩ | ⟨rfl,rfl,rfl⟩ | ⟨rfl,rfl,rfl⟩
 ·exact ak0
 ·exact ak1
 ·exact ak2
 ·exact ak3
 ·exact ak4
 ·exact ak5
 ·exact ak6
 ·exact ak7
 ·exact ak8
 ·exact ak9
 ·exact ak10
 ·exact ak11
 ·exact ak12
 ·exact ak13
theorem f6:tab.fns 6=some i6:=by rfl
theorem p6:prims 6=none:=by rfl
theorem awake6:cw (.f 6) [] ⟨[],0⟩=some (.bool true,⟨[],0⟩):=by
 unfold cw
 rw[callW_fn p6 f6]
 exact fcall_mono (tc_le ak_ok) (tl_le ak_ok 40) (resE_s (x:=i6.call (tc akL) (tl akL 40) [] ⟨[],0⟩) (by kernel_rfl))
theorem sum_ops {s:List UInt8}{w:Nat}{sg:Bool}(hs:tyR s=(0,(w:Int),sg)) (hw:w≤64) (h1:sg=true→1≤w) {f a b X:Nat}{ov lw:Bool}(ha:a<2^w) (hb:b<2^w) (hE:EX f w sg a b X ov lw) (i o1 o2 o3 o4:Int) (hi:decide (i<3)=true)
  (w1:IntKind.i64.wrap (6+i)=o1) (w2:IntKind.i64.wrap (9+i)=o2) (w3:IntKind.i64.wrap (12+i)=o3) (w4:IntKind.i64.wrap (15+i)=o4) (l1:0≤o1∧o1<70) (l2:0≤o2∧o2<70) (l3:0≤o3∧o3<70) (l4:0≤o4∧o4<70)
  (r1:isD 140 f (fnd rsQ o1)=true) (r2:isD 146 f (fnd rsQ o2)=true) (r3:isD 147 f (fnd rsQ o3)=true) (r4:isD 149 f (fnd rsQ o4)=true)
  (t1:∀c d,takP o1 false true c d=true) (t2:∀c d,takP o2 false true c d=true) (t3:∀c d,takP o3 false true c d=true) (t4:∀c d,takP o4 false true c d=true) :
  L3_0 s ((maskN w:Nat):Int) a b i m0=L3_0 s ((maskN w:Nat):Int) a b (IntKind.i64.wrap (i+1)) m0:=by
 obtain⟨p1,f1,k1,e1,n1,q1⟩:=isD_s r1
 obtain⟨p2,f2,k2,e2,n2,q2⟩:=isD_s r2
 obtain⟨p3,f3,k3,e3,n3,q3⟩:=isD_s r3
 obtain⟨p4,f4,k4,e4,n4,q4⟩:=isD_s r4
 obtain⟨Y,hY,hov,hD⟩:=do_sat hw h1 hE
 have g1:=call8 hs hw l1.1 l1.2 e1 n1 q1 rfl (t1 _ _) ha hb (do_checked hE)
 have g2:=call8 hs hw l2.1 l2.2 e2 n2 q2 rfl (t2 _ _) ha hb (do_wrapped hE)
 have g3:=call8 hs hw l3.1 l3.2 e3 n3 q3 rfl (t3 _ _) ha hb hD
 have g4:=call8 hs hw l4.1 l4.2 e4 n4 q4 rfl (t4 _ _) ha hb (do_over hE)
 exact round0 hw hE.1 hY hov i o1 o2 o3 o4 hi w1 w2 w3 w4 g1 g2 g3 g4
theorem div_ops {s:List UInt8}{w:Nat}{sg:Bool}(hs:tyR s=(0,(w:Int),sg)) (hw:w≤64) (h1:sg=true→1≤w) {f a b:Nat}(ha:a<2^w) (hb:b<2^w) (hV:b≠0→∃q r,DV f w sg a b q r) (i o1 o2:Int) (off:Nat) (hi:decide (i<2)=true)
  (hx:POp.ev (.indexS 2) [opsV,.int .i64 i]=some (.pI [.int .i64 18,.int .i64 21,.int .i64 19,.int .i64 22] off)) (hc:cut [.int .i64 18,.int .i64 21,.int .i64 19,.int .i64 22] off 2=some [.int .i64 o1,.int .i64 o2]) (l1:0≤o1∧o1<70) (l2:0≤o2∧o2<70)
  (r1:isDv f (fnd rsQ o1)=true) (r2:isD 152 f (fnd rsQ o2)=true) (t1:∀c d,takP o1 false true c d=true) (t2:∀c d,takP o2 false true c d=true) :
  L3_1 s ((maskN w:Nat):Int) a b opsV 2 i m0=L3_1 s ((maskN w:Nat):Int) a b opsV 2 (IntKind.i64.wrap (i+1)) m0:=by
 obtain⟨p1,f1,k1,e1,n1,q1⟩:=isDv_s r1
 obtain⟨p2,f2,k2,e2,n2,q2⟩:=isD_s r2
 by_cases g:b=0
 ·subst g
  have g1:=call8 hs hw l1.1 l1.2 e1 n1 q1 rfl (t1 _ _) ha hb (do_div0 f w a sg)
  have g2:=call8 hs hw l2.1 l2.2 e2 n2 q2 rfl (t2 _ _) ha hb (do_rem0 f w a sg)
  exact round1 (k:=0) hw ha i o1 o2 off hi hx hc g1 g2 (.inl rfl) (fun h=>absurd rfl h)
 ·obtain⟨q,r,hv⟩:=hV g
  obtain⟨x,k,hk,hj,hD⟩:=do_div hw h1 g hv
  have g1:=call8 hs hw l1.1 l1.2 e1 n1 q1 rfl (t1 _ _) ha hb hD
  have g2:=call8 hs hw l2.1 l2.2 e2 n2 q2 rfl (t2 _ _) ha hb (do_rem g hv)
  refine round1 (k:=k) hw ha i o1 o2 off hi hx hc ?_ ?_ hk (fun _=>hj)
  ·rw[if_neg g];exact g1
  ·rw[if_neg g];exact g2
theorem tk_all (o:Int) (h:(takP o false true true true&&(takP o false true true false&&(takP o false true false true&&takP o false true false false)))=true):∀c d,takP o false true c d=true:=by
 simp only[Bool.and_eq_true] at h
 obtain⟨a,b,c,d⟩:=h
 intro x y
 cases x<;>cases y<;>assumption
theorem rows_l:(isD 140 72 (fnd rsQ 6)=true∧isD 140 73 (fnd rsQ 7)=true∧isD 140 74 (fnd rsQ 8)=true)∧(isD 146 72 (fnd rsQ 9)=true∧isD 146 73 (fnd rsQ 10)=true∧isD 146 74 (fnd rsQ 11)=true)∧(isD 147 72 (fnd rsQ 12)=true∧isD 147 73 (fnd rsQ 13)=true∧isD 147 74 (fnd rsQ 14)=true) ∧
  (isD 149 72 (fnd rsQ 15)=true∧isD 149 73 (fnd rsQ 16)=true∧isD 149 74 (fnd rsQ 17)=true)∧(isDv 79 (fnd rsQ 18)=true∧isDv 80 (fnd rsQ 19)=true)∧(isD 152 79 (fnd rsQ 21)=true∧isD 152 80 (fnd rsQ 22)=true):=by
 have h:=rows_d
 unfold rowsD at h
 simpa only[Bool.and_eq_true] using h
theorem law3 (s:List UInt8) (x y:Nat) (hx:x<18446744073709551616) (hy:y<18446744073709551616):cw (.f 3) [.str s,.agg [.int .u64 (x:Int),.int .u64 (y:Int)]] m0=some (.bool true,m0):=by
 obtain⟨g,hg,hok⟩:=c0_3 s x y
 have c6:=fun (R:Type) (K:IV→IM→Option R)=>callC_cw awake6 (by rfl) K
 apply F3_call
 cases g with
 |true =>
  simp only[F3,go_sem,hg,if_true,c6]
 |false =>
  have hk:=hok rfl
  obtain⟨w,sg,hs,hw,h1⟩:=tyR_ok hk
  have h7:=call7 s m0
  rw[wid_ty hk,hs] at h7
  have c7:=fun (R:Type) (K:IV→IM→Option R)=>callC_cw h7 (by rfl) K
  have eA:=and_mask x w hx hw
  have eB:=and_mask y w hy hw
  have ha:x%2^w<2^w:=Nat.mod_lt _ (Nat.two_pow_pos _)
  have hb:y%2^w<2^w:=Nat.mod_lt _ (Nat.two_pow_pos _)
  generalize x%2^w=a at *
  generalize y%2^w=b at *
  obtain⟨⟨a1,a2,a3⟩,⟨b1,b2,b3⟩,⟨d1,d2,d3⟩,⟨e1,e2,e3⟩,⟨u1,u2⟩,v1,v2⟩:=rows_l
  obtain⟨X1,o1,l1,E1⟩:=plus_ex w a b sg hw h1 ha hb
  obtain⟨X2,o2,l2,E2⟩:=minus_ex w a b sg hw h1 ha hb
  obtain⟨X3,o3,l3,E3⟩:=times_ex w a b sg hw h1 ha hb
  have s1:=sum_ops hs hw h1 ha hb E1 0 6 9 12 15 rfl rfl rfl rfl rfl (by decide) (by decide) (by decide) (by decide) a1 b1 d1 e1 (tk_all _ (by decide)) (tk_all _ (by decide)) (tk_all _ (by decide)) (tk_all _ (by decide))
  have s2:=sum_ops hs hw h1 ha hb E2 1 7 10 13 16 rfl rfl rfl rfl rfl (by decide) (by decide) (by decide) (by decide) a2 b2 d2 e2 (tk_all _ (by decide)) (tk_all _ (by decide)) (tk_all _ (by decide)) (tk_all _ (by decide))
  have s3:=sum_ops hs hw h1 ha hb E3 2 8 11 14 17 rfl rfl rfl rfl rfl (by decide) (by decide) (by decide) (by decide) a3 b3 d3 e3 (tk_all _ (by decide)) (tk_all _ (by decide)) (tk_all _ (by decide)) (tk_all _ (by decide))
  have s4:L3_0 s ((maskN w:Nat):Int) a b 3 m0=some (.exit 0,[.str s,.int .u64 ((maskN w:Nat):Int),.int .u64 (a:Int),.int .u64 (b:Int)],[],m0):=by
   rw[L3_0_eq]
   rfl
  have S:L3_0 s ((maskN w:Nat):Int) a b 0 m0=_:=s1.trans (s2.trans (s3.trans s4))
  have t1:=div_ops hs hw h1 ha hb (fun h=>divided_dv w a b sg hw h1 ha hb h) 0 18 21 0 rfl rfl rfl (by decide) (by decide) u1 v1 (tk_all _ (by decide)) (tk_all _ (by decide))
  have t2:=div_ops hs hw h1 ha hb (fun h=>floored_dv w a b sg hw h1 ha hb h) 1 19 22 2 rfl rfl rfl (by decide) (by decide) u2 v2 (tk_all _ (by decide)) (tk_all _ (by decide))
  have t3:L3_1 s ((maskN w:Nat):Int) a b opsV 2 2 m0=some (.exit 2,[.str s,.int .u64 (a:Int)],[],m0):=by
   rw[L3_1_eq]
   rfl
  have T:L3_1 s ((maskN w:Nat):Int) a b opsV 2 0 m0=_:=t1.trans (t2.trans t3)
  have y1:tyR [117,56]=(0,((8:Nat):Int),false):=by decide
  have y2:tyR [105,56]=(0,((8:Nat):Int),true):=by decide
  have y3:tyR [117,51,50]=(0,((32:Nat):Int),false):=by decide
  have y4:tyR [105,54,52]=(0,((64:Nat):Int),true):=by decide
  have y5:tyR [117,49]=(0,((1:Nat):Int),false):=by decide
  have z1:=round2 hs hw h1 y1 (by decide) (by decide) a ha 0 0 rfl rfl rfl
  have z2:=round2 hs hw h1 y2 (by decide) (by decide) a ha 1 1 rfl rfl rfl
  have z3:=round2 hs hw h1 y3 (by decide) (by decide) a ha 2 2 rfl rfl rfl
  have z4:=round2 hs hw h1 y4 (by decide) (by decide) a ha 3 3 rfl rfl rfl
  have z5:=round2 hs hw h1 y5 (by decide) (by decide) a ha 4 4 rfl rfl rfl
  have z6:L3_2 s a tosV 5 5 m0=some (.exit 4,[],[],m0):=by
   rw[L3_2_eq]
   rfl
  have Z:L3_2 s a tosV 5 0 m0=_:=z1.trans (z2.trans (z3.trans (z4.trans (z5.trans z6))))
  have n2:(((2:Nat):Int))=2:=rfl
  have n5:(((5:Nat):Int))=5:=rfl
  simp only[F3,go_sem,hg,Bool.false_eq_true,if_false,if_true,c7,c1_3 s w hw,eA,eB,S,n2,n5,T,Z,c6]
end Go.Idl
