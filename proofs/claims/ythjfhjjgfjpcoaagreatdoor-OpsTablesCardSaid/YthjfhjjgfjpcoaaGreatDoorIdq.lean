/- This text proves what the interpreter returns at the functions that OpsTables reaches, last part, and that it returns true at OpsTables; it has no conditions. -/
import Derived.Test.YthjfhjjgfjpcoaaGreatDoorIdp
set_option linter.unusedSimpArgs false
set_option linter.unusedVariables false
namespace Go.Idl
attribute [local go_sem] uV_cons uI_cons gI gS iteC_if grd_if asI_mk asB_mk asS_mk asA_mk asT_mk asP_mk asP0_mk unc_cons unn_nil unb_cons unbn_nil asC_mk asIt_mk nilV_nil exC_if bindX_mk bindX_none refsC_nil refsC_cons plainC_nil plainC_cons ldP_pI ldP_pB nxt_inl nxt_inr nxt_if rA_nil rA_cons rD_of rD_int rD_bool rD_str rD_agg rD_tup go_nil go_cons elR_agg elR_int elR_bool elR_str elR_of refs_int refs_bool refs_str refs_nil refs_sl settle_id settle_set refsAll_nil refsAll_isSome refs_pB refs_fn cells_int cells_bool cells_str cells_pB cells_agg cells_fn cells_nil cells_sl List.flatMap_cons List.flatMap_nil
theorem refs_slR (l:List (List UInt8)):(slR l).refs=some 0:=id rfl
theorem len_slR (l:List (List UInt8)):POp.ev .lenSlice [slR l]=some (.int .i64 (l.length:Int)):=rfl
theorem idx_slR (l:List (List UInt8)) (i:Nat) (h:i<l.length):POp.ev (.indexS 1) [slR l,.int .i64 (i:Int)]=some (.pI (l.map .str) i):=by
 have c1:(i:Int)<(l.length:Int):=by omega
 have c2:(0:Int)≤(i:Int):=by omega
 simp[POp.ev,slR,c1,c2]
theorem get_slR {R:Type}(l:List (List UInt8)) (i:Nat) (h:i<l.length) (K:IV→Option R):cutC false (l.map IV.str) i 1 K=K (.str l[i]):=cutC_false (by simp[h]) K
theorem notL_slR {R:Type}(l:List (List UInt8)) (X:Option R):notL (slR l) X=X:=rfl
def nameB (l:List (List UInt8)) (op:Int):List UInt8×Int:=if 0≤op∧op<l.length then (l.getD op.toNat [],0) else ([],8)
theorem nameB_in (l:List (List UInt8)) (i:Nat) (h:i<l.length):nameB l i=(l[i],0):=by
 unfold nameB
 rw[if_pos (by omega)]
 simp[List.getD_eq_getElem?_getD,h]
theorem nameB_out (l:List (List UInt8)) (op:Int) (h:op<0∨(l.length:Int)≤op):nameB l op=([],8):=by
 unfold nameB
 rw[if_neg (by omega)]
theorem call12 (op:Int):cw (.f 12) [.int .i64 op] m0=some (.tup [.str (nameB NM op).1,.int .i64 (nameB NM op).2],m0):=by
 have h38:=fun (R:Type) (K:IV→IM→Option R)=>callC_cw names38 (by rfl) K
 apply F12_call
 by_cases h0:op<0
 ·rw[nameB_out NM op (.inl h0)]
  simp only[F12,C12_c0,go_sem,h0,decide_true,if_true]
  exact settle_id rfl
 ·by_cases h1:(NM.length:Int)≤op
  ·have c1:op≥(NM.length:Int):=h1
   rw[nameB_out NM op (.inr h1)]
   simp only[F12,C12_c0,go_sem,h0,decide_false,Bool.false_eq_true,if_false,h38,evC_of (len_slR NM),c1,decide_true,if_true]
   exact settle_id rfl
  ·obtain⟨i,rfl⟩:=Int.eq_ofNat_of_zero_le (by omega:0≤op)
   have hi:i<NM.length:=by omega
   have c1:¬(i:Int)≥(NM.length:Int):=by omega
   rw[nameB_in NM i hi]
   simp only[F12,C12_c0,go_sem,h0,decide_false,Bool.false_eq_true,if_false,h38,evC_of (len_slR NM),c1,evC_of (idx_slR NM i hi),get_slR NM i hi,if_true]
   exact settle_id rfl
theorem call20 (op:Int):cw (.f 20) [.int .i64 op] m0=some (.tup [.str (nameB KN op).1,.int .i64 (nameB KN op).2],m0):=by
 have h38:=fun (R:Type) (K:IV→IM→Option R)=>callC_cw kinds44 (by rfl) K
 apply F20_call
 by_cases h0:op<0
 ·rw[nameB_out KN op (.inl h0)]
  simp only[F20,C20_c0,go_sem,h0,decide_true,if_true]
  exact settle_id rfl
 ·by_cases h1:(KN.length:Int)≤op
  ·have c1:op≥(KN.length:Int):=h1
   rw[nameB_out KN op (.inr h1)]
   simp only[F20,C20_c0,go_sem,h0,decide_false,Bool.false_eq_true,if_false,h38,evC_of (len_slR KN),c1,decide_true,if_true]
   exact settle_id rfl
  ·obtain⟨i,rfl⟩:=Int.eq_ofNat_of_zero_le (by omega:0≤op)
   have hi:i<KN.length:=by omega
   have c1:¬(i:Int)≥(KN.length:Int):=by omega
   rw[nameB_in KN i hi]
   simp only[F20,C20_c0,go_sem,h0,decide_false,Bool.false_eq_true,if_false,h38,evC_of (len_slR KN),c1,evC_of (idx_slR KN i hi),get_slR KN i hi,if_true]
   exact settle_id rfl
theorem call19 (op:Int):cw (.f 19) [.int .i64 op] m0=some (.tup [.str (nameB KN op).1,.int .i64 (nameB KN op).2],m0):=by
 have h43:=fun (R:Type) (K:IV→IM→Option R)=>callC_cw fld19 (by rfl) K
 have nr:=fun (R:Type) (X:Option R)=>refC_of (R:=R) (refs_slR KN) X
 apply F19_call
 by_cases h0:op<0
 ·rw[nameB_out KN op (.inl h0)]
  simp only[F19,C19_c0,go_sem,h43,h0,decide_true,if_true]
  exact settle_id rfl
 ·by_cases h1:(KN.length:Int)≤op
  ·have c1:op≥(KN.length:Int):=h1
   rw[nameB_out KN op (.inr h1)]
   simp only[F19,C19_c0,go_sem,h0,decide_false,Bool.false_eq_true,if_false,h43,evC_of (len_slR KN),c1,decide_true,if_true]
   exact settle_id rfl
  ·obtain⟨i,rfl⟩:=Int.eq_ofNat_of_zero_le (by omega:0≤op)
   have hi:i<KN.length:=by omega
   have c1:¬(i:Int)≥(KN.length:Int):=by omega
   rw[nameB_in KN i hi]
   simp only[F19,C19_c0,go_sem,h0,decide_false,Bool.false_eq_true,if_false,h43,evC_of (len_slR KN),c1,evC_of (idx_slR KN i hi),get_slR KN i hi,if_true]
   exact settle_id rfl
def idxN:List (List UInt8)→List UInt8→Nat→Option Nat
 |[],_,_=>none
 |w::r,s,i=>if w=s then some i else idxN r s (i+1)
def fndB (s:List UInt8):Int×Int:=match idxN NM s 0 with
 |some i=>((i:Int),0)
 |none=>(0,8)
theorem loop14 (W:List (List UInt8)) (hW:W.length≤1000) (s:List UInt8) (m:IM):∀(j i:Nat),W.length=i+j →
  L14_0 s (slR W) i m=some (match idxN (W.drop i) s i with
   |some p=>(.ret,[.int .i64 (p:Int),.int .i64 0],[],m)
   |none=>(.exit 0,[],[],m)):=by
 intro j
 induction j with
 |zero =>
  intro i hk
  have e:W.drop i=[]:=List.drop_eq_nil_iff.2 (by omega)
  have c1:¬(i:Int)<(W.length:Int):=by omega
  rw[e,L14_0_eq]
  simp only[B14_0,go_sem,evC_of (len_slR W),c1,decide_false,Bool.false_eq_true,if_false,idxN]
 |succ j ih =>
  intro i hk
  have hi:i<W.length:=by omega
  have c1:(i:Int)<(W.length:Int):=by omega
  have e2:IntKind.i64.wrap ((i:Int)+1)=((i+1:Nat):Int):=by rw[w64 (by omega) (by omega)];rfl
  have ih':=ih (i+1) (by omega)
  have hx:idxN (W[i]::W.drop (i+1)) s i=if W[i]=s then some i else idxN (W.drop (i+1)) s (i+1):=rfl
  rw[List.drop_eq_getElem_cons hi,L14_0_eq,hx]
  by_cases g:W[i]=s
  ·have g':(W[i]==s)=true:=by simpa using g
   rw[if_pos g]
   simp only[B14_0,go_sem,evC_of (len_slR W),c1,decide_true,if_true,evC_of (idx_slR W i hi),get_slR W i hi,g']
  ·have g':(W[i]==s)=false:=by simpa using g
   rw[if_neg g,←ih']
   simp only[B14_0,go_sem,evC_of (len_slR W),c1,decide_true,if_true,evC_of (idx_slR W i hi),get_slR W i hi,g',Bool.false_eq_true,if_false,notL_slR,e2]
   rfl
theorem call14 (s:List UInt8):cw (.f 14) [.str s] m0=some (.tup [.int .i64 (fndB s).1,.int .i64 (fndB s).2],m0):=by
 have h38:=fun (R:Type) (K:IV→IM→Option R)=>callC_cw names38 (by rfl) K
 have hL:=loop14 NM (by decide) s m0 70 0 rfl
 rw[List.drop_zero] at hL
 apply F14_call
 unfold F14 fndB
 rw[h38,notL_slR,show (0:Int)=((0:Nat):Int) from rfl,hL]
 cases idxN NM s 0 with
 |none=>simp[go_sem]
 |some p=>simp[go_sem]
end Go.Idl
namespace Go.Idl
attribute [local go_sem] uV_cons uI_cons gI gS iteC_if grd_if asI_mk asB_mk asS_mk asA_mk asT_mk asP_mk asP0_mk unc_cons unn_nil unb_cons unbn_nil asC_mk asIt_mk nilV_nil exC_if bindX_mk bindX_none refsC_nil refsC_cons plainC_nil plainC_cons ldP_pI ldP_pB nxt_inl nxt_inr nxt_if rA_nil rA_cons rD_of rD_int rD_bool rD_str rD_agg rD_tup go_nil go_cons elR_agg elR_int elR_bool elR_str elR_of refs_int refs_bool refs_str refs_nil refs_sl settle_id settle_set refsAll_nil refsAll_isSome refs_pB refs_fn cells_int cells_bool cells_str cells_pB cells_agg cells_fn cells_nil cells_sl List.flatMap_cons List.flatMap_nil
attribute [local go_sem] oA gA vA wA nA fA dA eA oV oW oN oD oF IFn.call ICode.run runOps IOp.run IOp.run0 gate IK.ok addrOK appOK OTag.hits IK.run Arg.rd look lookL rdAll POp.ev binEv bAdd bSub bMul bQuo bRem bLss bLeq bGtr bGeq bEql bNeq binStr shl6 unEv isShift St.put lkSlot lkL lkB lkC frc_eq frcV_eq IK.link slotC slotV St.drop St.capAt St.owner linkOf mkEnv retsOf settle0 IV.refsDeep IV.refsDeep.go IV.refs IV.refs.go refsAll IV.plain callI hideIds hideM unhideM IV.cells IV.isU IV.isL fillI repl over partI cut eqS byteVals bnd bnds loHi fold2 min2I max2I srcOf bytesCells zipCap newL newG storeI overCap capSl loadI cellsAt uqB loopW_lc St.head headE headB capNil capsL
def tk (m m':IM):IM:=⟨m'.bs.take m.size,m'.esc⟩
def settleY (m m':IM) (v:IV):Option (IV×IM):=settle m m' v
theorem tk_mk (a b:List BObj) (e e':Nat):tk ⟨a,e⟩ ⟨b,e'⟩=⟨b.take a.length,e'⟩:=rfl
theorem settleG {m m':IM}{v:IV}:settle m m' v=if v.refsDeep=some 0∧m'.esc=m.esc then some (v,tk m m') else settleY m m' v:=by
 split
 ·rename_i h
  unfold settle tk
  simp[h.1,h.2,frc_eq]
 ·rfl
def Q11 (op:Int) (s:List UInt8) (e:Int):IM:=⟨[.cells [.str s] [.any],.cells [.int .i64 e] [.any],.loop 1 11 0 (tm11 op) 1],0⟩
theorem y11 (op:Int) (i:Nat) (s:List UInt8):cw (.y 2) [.int .i64 (i:Int),.str s] (P11 op [] 0 0)=some (if (i:Int)=op then (.bool false,Q11 op s 0) else (.bool true,P11 op [] 0 0)):=by
 unfold cw;rw[callW_y (fn:=11) (site:=0) (r:=r11_0) (bz:=0) (j:=0) (tm:=tm11 op) rfl rfl]
 by_cases h:(i:Int)=op
 ·simp[r11_0,IRnd.call,setAll,P11,Q11,tm11,go_sem,IM.get,IM.put,settleG,tk_mk,jnum,h]
 ·have h':((i:Int)==op)=false:=by simpa using h
  simp[r11_0,IRnd.call,setAll,P11,Q11,tm11,go_sem,IM.get,IM.put,settleG,tk_mk,jnum,h,h']
theorem loop59N (W:List (List UInt8)) (hW:W.length≤1000) (op:Int):∀(j i:Nat),W.length=i+j→(op<0∨(i:Int)≤op) →
  L59_0 (.yld 2) (slR W) W.length i (P11 op [] 0 0)=some (if 0≤op∧op<W.length then (.ret,[],[],Q11 op (nameB W op).1 0) else (.exit 0,[],[],P11 op [] 0 0)):=by
 intro j
 induction j with
 |zero =>
  intro i hk ho
  have c1:¬(i:Int)<(W.length:Int):=by omega
  rw[if_neg (by omega),L59_0_eq]
  simp only[B59_0,go_sem,c1,decide_false,Bool.false_eq_true,if_false]
 |succ j ih =>
  intro i hk ho
  have hi:i<W.length:=by omega
  have c1:(i:Int)<(W.length:Int):=by omega
  have e2:IntKind.i64.wrap ((i:Int)+1)=((i+1:Nat):Int):=by rw[w64 (by omega) (by omega)];rfl
  have kf:∀(R:Type) (X:Option R),keepC (.yld 2) [] X=X:=fun _ _=>rfl
  have hy:=y11 op i W[i]
  have cv:∀(R:Type) (vs:List IV) (m:IM) (K:IV→IM→Option R),callVC cw (.yld 2) vs [] m K=callC cw (.y 2) vs [] m K:=fun _ _ _ _=>rfl
  rw[L59_0_eq]
  by_cases g:(i:Int)=op
  ·rw[if_pos g] at hy
   have hc:=fun (R:Type) (K:IV→IM→Option R)=>callC_cw hy (by simp[go_sem]) K
   rw[if_pos (by omega),←g,nameB_in W i hi]
   subst g
   simp only[B59_0,go_sem,c1,decide_true,if_true,evC_of (idx_slR W i hi),get_slR W i hi,cv,hc,Bool.not_false]
  ·rw[if_neg g] at hy
   have hc:=fun (R:Type) (K:IV→IM→Option R)=>callC_cw hy (by simp[go_sem]) K
   rw[←ih (i+1) (by omega) (by omega)]
   simp only[B59_0,go_sem,c1,decide_true,if_true,evC_of (idx_slR W i hi),get_slR W i hi,cv,hc,Bool.not_true,Bool.false_eq_true,if_false,kf,notL_slR,e2]
   rfl
set_option maxRecDepth 100000 in
theorem call59N (op:Int):cw (.f 59) [.yld 2] (P11 op [] 0 0)=some (.tup [],if 0≤op∧op<70 then Q11 op (nameB NM op).1 0 else P11 op [] 0 0):=by
 have h43:=fun (R:Type) (K:IV→IM→Option R)=>callC_cw (fld11 op) (by rfl) K
 have hL:=loop59N NM (by decide) op 70 0 rfl (by omega)
 have hl:(NM.length:Int)=70:=rfl
 have kf:∀(R:Type) (X:Option R),keepC (.yld 2) [] X=X:=fun _ _=>rfl
 have s1:settle (P11 op [] 0 0) (Q11 op (nameB NM op).1 0) (.tup [])=some (.tup [],Q11 op (nameB NM op).1 0):=settle_same rfl rfl rfl
 have s2:settle (P11 op [] 0 0) (P11 op [] 0 0) (.tup [])=some (.tup [],P11 op [] 0 0):=settle_same rfl rfl rfl
 rw[hl] at hL
 have hL:L59_0 (.yld 2) (slR NM) 70 0 (P11 op [] 0 0)=_:=hL
 apply F59_call
 by_cases h:0≤op∧op<70
 ·rw[if_pos h] at hL ⊢
  unfold F59
  refine (h43 _ _).trans ?_
  rw[evC_of (len_slR NM),asI_mk,kf,notL_slR,hl,hL]
  simp only[go_sem,reduceCtorEq,if_false,if_true,s1]
 ·rw[if_neg h] at hL ⊢
  unfold F59
  refine (h43 _ _).trans ?_
  rw[evC_of (len_slR NM),asI_mk,kf,notL_slR,hl,hL]
  simp only[go_sem,reduceCtorEq,if_false,if_true,s2]
theorem call37 (m:IM):cw (.f 37) [] m=some (.func 59 [] [],m):=by
 apply F37_call
 unfold F37
 exact settle_id rfl
theorem f11:tab.fns 11=some i11:=by rfl
theorem p11:prims 11=none:=by rfl
theorem call11 (op:Int):cw (.f 11) [.int .i64 op] m0=some (.tup [.str (nameB NM op).1,.int .i64 (nameB NM op).2],m0):=by
 have h1:=call59N op
 have h2:=call37 ⟨[.cells [.str []] [.any],.cells [.int .i64 0] [.any]],0⟩
 unfold cw at h1 h2
 unfold cw;rw[callW_fn p11 f11]
 by_cases h:0≤op∧op<70
 ·obtain⟨i,rfl⟩:=Int.eq_ofNat_of_zero_le h.1
  have hi:i<NM.length:=by have:NM.length=70:=rfl;omega
  have hb:=nameB_in NM i hi
  rw[if_pos h,hb] at h1
  rw[hb]
  simp only[P11,Q11,tm11] at h1
  simp[i11,go_sem,h1,h2,settleG,tk_mk,IM.push,IM.size,IM.get,IM.put,noL]
 ·have hb:=nameB_out NM op (by have:NM.length=70:=rfl;omega)
  rw[if_neg h] at h1
  rw[hb]
  simp only[P11,Q11,tm11] at h1
  simp[i11,go_sem,h1,h2,settleG,tk_mk,IM.push,IM.size,IM.get,IM.put,noL]
end Go.Idl
namespace Go.Idl
attribute [local go_sem] uV_cons uI_cons gI gS iteC_if grd_if asI_mk asB_mk asS_mk asA_mk asT_mk asP_mk asP0_mk unc_cons unn_nil unb_cons unbn_nil asC_mk asIt_mk nilV_nil exC_if bindX_mk bindX_none refsC_nil refsC_cons plainC_nil plainC_cons ldP_pI ldP_pB nxt_inl nxt_inr nxt_if rA_nil rA_cons rD_of rD_int rD_bool rD_str rD_agg rD_tup go_nil go_cons elR_agg elR_int elR_bool elR_str elR_of refs_int refs_bool refs_str refs_nil refs_sl settle_id settle_set refsAll_nil refsAll_isSome refs_pB refs_fn cells_int cells_bool cells_str cells_pB cells_agg cells_fn cells_nil cells_sl List.flatMap_cons List.flatMap_nil
attribute [local go_sem] oA gA vA wA nA fA dA eA oV oW oN oD oF IFn.call ICode.run runOps IOp.run IOp.run0 gate IK.ok addrOK appOK OTag.hits IK.run Arg.rd look lookL rdAll POp.ev binEv bAdd bSub bMul bQuo bRem bLss bLeq bGtr bGeq bEql bNeq binStr shl6 unEv isShift St.put lkSlot lkL lkB lkC frc_eq frcV_eq IK.link slotC slotV St.drop St.capAt St.owner linkOf mkEnv retsOf settle0 IV.refsDeep IV.refsDeep.go IV.refs IV.refs.go refsAll IV.plain callI hideIds hideM unhideM IV.cells IV.isU IV.isL fillI repl over partI cut eqS byteVals bnd bnds loHi fold2 min2I max2I srcOf bytesCells zipCap newL newG storeI overCap capSl loadI cellsAt uqB loopW_lc St.head headE headB capNil capsL
theorem k13_0:h13_0.keep=[(1,0),(2,0),(3,0),(4,0),(17,0)]:=rfl
theorem kl13_0:h13_0.keepL=[0]:=rfl
theorem ko13_0:h13_0.ownL=[]:=rfl
def S13 (s w:List UInt8) (i:Int) (k:Nat) (m:IM):St where
 env:=[(1,.pI [.str s] 0,.any),(2,.pB 0 0,.any),(3,.pB 1 0,.any),(4,.int .i64 i,.any),(17,.pL 0 0,.any)]
 lk:=[]
 lb:=[(0,.iter w k)]
 m:=m
def ascW (w:List UInt8):Prop:=∀b∈w,b.toNat<128
theorem u8w (b:UInt8):IntKind.u8.wrap (b.toNat:Int)=(b.toNat:Int):=w8 (by omega) (by have:=b.toNat_lt;omega)
theorem L13 (s w:List UInt8) (i:Int) (m:IM) (hw:ascW w) (hl:w.length=s.length):∀(j k:Nat),w.length=k+j →
  ∃e' lb',lc tab prims h13_0 l13_0 (some (S13 s w i k m))=some (.exit (if w.drop k=s.drop k then 2 else 1),{ env:=e',lk:=[],lb:=lb',m:=m }) ∧
   look e' 2=some (.pB 0 0,.any)∧look e' 3=some (.pB 1 0,.any)∧look e' 4=some (.int .i64 i,.any):=by
 intro j
 induction j with
 |zero =>
  intro k hk
  have e1:w.drop k=[]:=List.drop_eq_nil_iff.2 (by omega)
  have e2:s.drop k=[]:=List.drop_eq_nil_iff.2 (by omega)
  have c1:¬k<w.length:=by omega
  rw[lc_some,e1,e2,if_pos rfl]
  simp[l13_0,S13,go_sem,c1]
 |succ j ih =>
  intro k hk
  have hi:k<w.length:=by omega
  have hi2:k<s.length:=by omega
  have hd:=(dec_hd hi).1 (hw _ (List.getElem_mem hi))
  have c2:(k:Int)<(s.length:Int):=by omega
  have c3:(0:Int)≤(k:Int):=by omega
  obtain⟨e',lb',h1,h2,h3,h4⟩:=ih (k+1) (by omega)
  simp only[S13] at h1
  rw[lc_some,List.drop_eq_getElem_cons hi,List.drop_eq_getElem_cons hi2]
  by_cases g:w[k]=s[k]
  ·have g':((w[k].toNat:Int) != (s[k].toNat:Int))=false:=by rw[g];simp
   have hif:(w[k]::w.drop (k+1)=s[k]::s.drop (k+1))↔(w.drop (k+1)=s.drop (k+1)):=⟨fun h=>(List.cons.inj h).2,fun h=>by rw[g,h]⟩
   simp only[hif]
   refine⟨e',lb',?_,h2,h3,h4⟩
   rw[←h1]
   simp[l13_0,k13_0,kl13_0,ko13_0,S13,go_sem,hi,hd,u8w,hi2,g']
  ·have g':((w[k].toNat:Int) != (s[k].toNat:Int))=true:=by
    have:(w[k].toNat:Int)≠(s[k].toNat:Int):=fun e=>g (UInt8.toNat_inj.1 (by omega))
    simpa using this
   have hif:¬(w[k]::w.drop (k+1)=s[k]::s.drop (k+1)):=fun h=>g (List.cons.inj h).1
   rw[if_neg hif]
   simp[l13_0,S13,go_sem,hi,hd,u8w,hi2,g']
def Q13 (s:List UInt8) (r:Int):IM:=⟨[.cells [.int .i64 r] [.any],.cells [.int .i64 0] [.any],.loop 1 13 0 (tm13 s) 1],0⟩
theorem y13 (s w:List UInt8) (i:Nat) (hw:ascW w):cw (.y 2) [.int .i64 (i:Int),.str w] (P13 s 0 0 0)=some (if w=s then (.bool false,Q13 s i) else (.bool true,P13 s 0 0 0)):=by
 unfold cw;rw[callW_y (fn:=13) (site:=0) (r:=r13_0) (bz:=0) (j:=0) (tm:=tm13 s) rfl rfl]
 by_cases hl:w.length=s.length
 ·have c0:((w.length:Int) != (s.length:Int))=false:=by rw[hl];simp
  obtain⟨e',lb',h1,h2,h3,h4⟩:=L13 s w i ⟨[.cells [.int .i64 0] [.any],.cells [.int .i64 0] [.any],.loop 2 13 0 (tm13 s) 0],0⟩ hw hl w.length 0 (by omega)
  rw[List.drop_zero,List.drop_zero] at h1
  simp only[S13] at h1
  by_cases g:w=s
  ·rw[if_pos g] at h1 ⊢
   simp only[tm13] at h1
   simp[r13_0,IRnd.call,setAll,P13,Q13,tm13,k13_0,kl13_0,ko13_0,go_sem,IM.get,IM.put,settleG,tk_mk,jnum,c0,h1,h2,h3,h4]
  ·rw[if_neg g] at h1 ⊢
   simp only[tm13] at h1
   simp[r13_0,IRnd.call,setAll,P13,Q13,tm13,k13_0,kl13_0,ko13_0,go_sem,IM.get,IM.put,settleG,tk_mk,jnum,c0,h1,h2,h3,h4]
 ·have c0:((w.length:Int) != (s.length:Int))=true:=by
   have:(w.length:Int)≠(s.length:Int):=by omega
   simpa using this
  have g:¬w=s:=fun e=>hl (by rw[e])
  rw[if_neg g]
  simp[r13_0,IRnd.call,setAll,P13,Q13,tm13,go_sem,IM.get,IM.put,settleG,tk_mk,jnum,c0]
theorem loop59F (W:List (List UInt8)) (hW:W.length≤1000) (ha:∀w∈W,ascW w) (s:List UInt8):∀(j i:Nat),W.length=i+j →
  L59_0 (.yld 2) (slR W) W.length i (P13 s 0 0 0)=some (match idxN (W.drop i) s i with
   |some p=>(.ret,[],[],Q13 s p)
   |none=>(.exit 0,[],[],P13 s 0 0 0)):=by
 intro j
 induction j with
 |zero =>
  intro i hk
  have e:W.drop i=[]:=List.drop_eq_nil_iff.2 (by omega)
  have c1:¬(i:Int)<(W.length:Int):=by omega
  rw[e,L59_0_eq]
  simp only[B59_0,go_sem,c1,decide_false,Bool.false_eq_true,if_false,idxN]
 |succ j ih =>
  intro i hk
  have hi:i<W.length:=by omega
  have c1:(i:Int)<(W.length:Int):=by omega
  have e2:IntKind.i64.wrap ((i:Int)+1)=((i+1:Nat):Int):=by rw[w64 (by omega) (by omega)];rfl
  have kf:∀(R:Type) (X:Option R),keepC (.yld 2) [] X=X:=fun _ _=>rfl
  have hy:=y13 s W[i] i (ha _ (List.getElem_mem hi))
  have cv:∀(R:Type) (vs:List IV) (m:IM) (K:IV→IM→Option R),callVC cw (.yld 2) vs [] m K=callC cw (.y 2) vs [] m K:=fun _ _ _ _=>rfl
  have hx:idxN (W[i]::W.drop (i+1)) s i=if W[i]=s then some i else idxN (W.drop (i+1)) s (i+1):=rfl
  rw[List.drop_eq_getElem_cons hi,L59_0_eq,hx]
  by_cases g:W[i]=s
  ·rw[if_pos g] at hy
   have hc:=fun (R:Type) (K:IV→IM→Option R)=>callC_cw hy (by simp[go_sem]) K
   rw[if_pos g]
   simp only[B59_0,go_sem,c1,decide_true,if_true,evC_of (idx_slR W i hi),get_slR W i hi,cv,hc,Bool.not_false]
  ·rw[if_neg g] at hy
   have hc:=fun (R:Type) (K:IV→IM→Option R)=>callC_cw hy (by simp[go_sem]) K
   rw[if_neg g,←ih (i+1) (by omega)]
   simp only[B59_0,go_sem,c1,decide_true,if_true,evC_of (idx_slR W i hi),get_slR W i hi,cv,hc,Bool.not_true,Bool.false_eq_true,if_false,kf,notL_slR,e2]
   rfl
theorem NM_asc:∀w∈NM,ascW w:=by
 have h:(NM.all fun w=>w.all fun b=>decide (b.toNat<128))=true:=by decide +kernel
 intro w hw b hb
 exact of_decide_eq_true (List.all_eq_true.1 (List.all_eq_true.1 h w hw) b hb)
set_option maxRecDepth 100000 in
theorem call59F (s:List UInt8):cw (.f 59) [.yld 2] (P13 s 0 0 0)=some (.tup [],match idxN NM s 0 with
  |some p=>Q13 s p
  |none=>P13 s 0 0 0):=by
 have h43:=fun (R:Type) (K:IV→IM→Option R)=>callC_cw (fld13 s) (by rfl) K
 have hL:=loop59F NM (by decide) NM_asc s 70 0 rfl
 have hl:(NM.length:Int)=70:=rfl
 have kf:∀(R:Type) (X:Option R),keepC (.yld 2) [] X=X:=fun _ _=>rfl
 have s1:∀p:Nat,settle (P13 s 0 0 0) (Q13 s p) (.tup [])=some (.tup [],Q13 s p):=fun p=>settle_same rfl rfl rfl
 have s2:settle (P13 s 0 0 0) (P13 s 0 0 0) (.tup [])=some (.tup [],P13 s 0 0 0):=settle_same rfl rfl rfl
 rw[hl,List.drop_zero] at hL
 have hL:L59_0 (.yld 2) (slR NM) 70 0 (P13 s 0 0 0)=_:=hL
 apply F59_call
 cases hx:idxN NM s 0 with
 |some p =>
  rw[hx] at hL
  unfold F59
  refine (h43 _ _).trans ?_
  rw[evC_of (len_slR NM),asI_mk,kf,notL_slR,hl,hL]
  simp only[go_sem,reduceCtorEq,if_false,if_true,s1]
 |none =>
  rw[hx] at hL
  unfold F59
  refine (h43 _ _).trans ?_
  rw[evC_of (len_slR NM),asI_mk,kf,notL_slR,hl,hL]
  simp only[go_sem,reduceCtorEq,if_false,if_true,s2]
theorem f13:tab.fns 13=some i13:=by rfl
theorem p13:prims 13=none:=by rfl
theorem call13 (s:List UInt8):cw (.f 13) [.str s] m0=some (.tup [.int .i64 (fndB s).1,.int .i64 (fndB s).2],m0):=by
 have h1:=call59F s
 have h2:=call37 ⟨[.cells [.int .i64 0] [.any],.cells [.int .i64 0] [.any]],0⟩
 unfold cw at h1 h2
 unfold cw fndB;rw[callW_fn p13 f13]
 cases hx:idxN NM s 0 with
 |some p =>
  rw[hx] at h1
  simp only[P13,Q13,tm13] at h1
  simp[i13,go_sem,h1,h2,settleG,tk_mk,IM.push,IM.size,IM.get,IM.put,noL]
 |none =>
  rw[hx] at h1
  simp only[P13,Q13,tm13] at h1
  simp[i13,go_sem,h1,h2,settleG,tk_mk,IM.push,IM.size,IM.get,IM.put,noL]
end Go.Idl
namespace Go.Idl
attribute [local go_sem] uV_cons uI_cons gI gS iteC_if grd_if asI_mk asB_mk asS_mk asA_mk asT_mk asP_mk asP0_mk unc_cons unn_nil unb_cons unbn_nil asC_mk asIt_mk nilV_nil exC_if bindX_mk bindX_none refsC_nil refsC_cons plainC_nil plainC_cons ldP_pI ldP_pB nxt_inl nxt_inr nxt_if rA_nil rA_cons rD_of rD_int rD_bool rD_str rD_agg rD_tup go_nil go_cons elR_agg elR_int elR_bool elR_str elR_of refs_int refs_bool refs_str refs_nil refs_sl settle_id settle_set refsAll_nil refsAll_isSome refs_pB refs_fn cells_int cells_bool cells_str cells_pB cells_agg cells_fn cells_nil cells_sl List.flatMap_cons List.flatMap_nil
def inFl (op:Int):Bool:=decide (op=6∨op=7∨op=8∨op=18∨op=30∨(34≤op∧op≤37))
def takP (op:Int) (fl is sg e8:Bool):Bool:=(tfd tabL op).isSome&&(if fl=true then inFl op else if op=46∨op=47∨op=48 then is && !sg else if op=49 then is&&(!sg&&e8) else is)
def takR (op:Int) (fl is sg e8:Bool):Bool :=
 if fmR op=0∨fmR op=4 then false else if fl=true then inFl op else if is=false then false else if 46≤op∧op≤49 then !sg&&(decide (op≠49)||e8) else true
def bb (f:Bool→Bool):Bool:=f true&&f false
theorem bb_all {f:Bool→Bool}(h:bb f=true) (b:Bool):f b=true:=by
 simp only[bb,Bool.and_eq_true] at h
 cases b
 ·exact h.2
 ·exact h.1
theorem fmR_out {op:Int}(h:op<0∨49<op):fmR op=0:=by
 rw[←fm_eq]
 unfold fmP
 rw[tfd_out (by omega),if_neg (by omega)]
 rfl
theorem tak_eq (fl is sg e8:Bool) (op:Int):takP op fl is sg e8=takR op fl is sg e8:=by
 refine op_cases (p:=fun op=>takP op fl is sg e8=takR op fl is sg e8) (fun k=>bb fun fl=>bb fun is=>bb fun sg=>bb fun e8=>takP k fl is sg e8==takR k fl is sg e8) (by decide +kernel) (fun k h=>eq_of_beq (bb_all (bb_all (bb_all (bb_all h fl) is) sg) e8)) (fun op h=>?_) op
 unfold takP takR
 rw[tfd_out (by omega),fmR_out h]
 simp
def slZ (l:List Int):IV:=.sl (l.map (IV.int .i64)) l.length
theorem len_slZ (l:List Int):POp.ev .lenSlice [slZ l]=some (.int .i64 (l.length:Int)):=rfl
theorem idx_slZ (l:List Int) (i:Nat) (h:i<l.length):POp.ev (.indexS 1) [slZ l,.int .i64 (i:Int)]=some (.pI (l.map (IV.int .i64)) i):=by
 have c1:(i:Int)<(l.length:Int):=by omega
 have c2:(0:Int)≤(i:Int):=by omega
 simp[POp.ev,slZ,c1,c2]
theorem get_slZ {R:Type}(l:List Int) (i:Nat) (h:i<l.length) (K:IV→Option R):cutC false (l.map (IV.int .i64)) i 1 K=K (.int .i64 l[i]):=cutC_false (by simp[h]) K
theorem notL_slZ {R:Type}(l:List Int) (X:Option R):notL (slZ l) X=X:=rfl
def idxZ:List Int→Int→Nat→Option Nat
 |[],_,_=>none
 |w::r,s,i=>if s=w then some i else idxZ r s (i+1)
theorem loop66 (W:List Int) (hW:W.length≤1000) (v:Int) (m:IM):∀(j i:Nat),W.length=i+j →
  L66_0 (slZ W) v W.length i m=some (match idxZ (W.drop i) v i with
   |some p=>(.ret,[.int .i64 (p:Int)],[],m)
   |none=>(.exit 0,[],[],m)):=by
 intro j
 induction j with
 |zero =>
  intro i hk
  have e:W.drop i=[]:=List.drop_eq_nil_iff.2 (by omega)
  have c1:¬(i:Int)<(W.length:Int):=by omega
  rw[e,L66_0_eq]
  simp only[B66_0,go_sem,c1,decide_false,Bool.false_eq_true,if_false,idxZ]
 |succ j ih =>
  intro i hk
  have hi:i<W.length:=by omega
  have c1:(i:Int)<(W.length:Int):=by omega
  have e2:IntKind.i64.wrap ((i:Int)+1)=((i+1:Nat):Int):=by rw[w64 (by omega) (by omega)];rfl
  have ih':=ih (i+1) (by omega)
  have hx:idxZ (W[i]::W.drop (i+1)) v i=if v=W[i] then some i else idxZ (W.drop (i+1)) v (i+1):=rfl
  rw[List.drop_eq_getElem_cons hi,L66_0_eq,hx]
  by_cases g:v=W[i]
  ·have g':(v==W[i])=true:=by simpa using g
   rw[if_pos g]
   simp only[B66_0,go_sem,c1,decide_true,if_true,evC_of (idx_slZ W i hi),get_slZ W i hi,g']
  ·have g':(v==W[i])=false:=by simpa using g
   rw[if_neg g,←ih']
   simp only[B66_0,go_sem,c1,decide_true,if_true,evC_of (idx_slZ W i hi),get_slZ W i hi,g',Bool.false_eq_true,if_false,notL_slZ,e2]
   rfl
theorem call66 (W:List Int) (hW:W.length≤1000) (v:Int) (m:IM):cw (.f 66) [slZ W,.int .i64 v] m=some (.int .i64 (match idxZ W v 0 with | some p=>(p:Int) | none=>-1),m):=by
 have hL:=loop66 W hW v m W.length 0 (by omega)
 rw[List.drop_zero] at hL
 have hL:L66_0 (slZ W) v W.length 0 m=_:=hL
 apply F66_call
 unfold F66
 rw[evC_of (len_slZ W),asI_mk,notL_slZ,hL]
 cases idxZ W v 0 with
 |none=>simp[go_sem]
 |some p=>simp[go_sem]
def flL:List Int:=[6,7,8,18,30,34,35,36,37]
theorem flL_in (op:Int):(idxZ flL op 0).isSome=inFl op:=by
 refine op_cases (p:=fun op=>(idxZ flL op 0).isSome=inFl op) (fun k=>(idxZ flL k 0).isSome==inFl k) (by decide +kernel) (fun k h=>eq_of_beq h) (fun op h=>?_) op
 have h1:inFl op=false:=by unfold inFl;exact decide_eq_false (by omega)
 rw[h1]
 simp only[flL,idxZ]
 repeat rw[if_neg (by omega)]
 rfl
theorem call47 (op:Int) (m:IM):cw (.f 47) [.sl [.int .i64 6,.int .i64 7,.int .i64 8,.int .i64 18,.int .i64 30,.int .i64 34,.int .i64 35,.int .i64 36,.int .i64 37] 9,.int .i64 op] m=some (.bool (inFl op),m):=by
 have h66:=fun (R:Type) (K:IV→IM→Option R)=>callC_cw (call66 flL (by decide) op m) (by rfl) K
 show cw (.f 47) [slZ flL,.int .i64 op] m=_
 apply F47_call
 unfold F47
 rw[h66,←flL_in]
 cases idxZ flL op 0 with
 |none=>simp[go_sem]
 |some p=>simp[go_sem]
theorem call23 (op:Int) (s:List UInt8):cw (.f 23) [.int .i64 op,.str s] m0=some (.bool (takP op (isFlB s) (tyOk s) (tyR s).2.2 (Int.tmod (tyR s).2.1 8==0)),m0):=by
 obtain⟨e,hok⟩:=rows_is
 have h46:=call46 op
 have h30:=fun (R:Type) (K:IV→IM→Option R)=>callC_cw (call30 s m0) (by simp[go_sem]) K
 have h47:=fun (R:Type) (K:IV→IM→Option R)=>callC_cw (call47 op m0) (by rfl) K
 have h28:=fun (R:Type) (K:IV→IM→Option R)=>callC_cw (call28 s m0) (by simp[go_sem]) K
 apply F23_call
 unfold F23 takP
 rcases rowsOk_fnd op hok with ⟨h1,h2⟩ | ⟨r,t,h1,h2,h3⟩
 ·rw[h1] at h46
  have hh:=fun (R:Type) (K:IV→IM→Option R)=>callC_cw h46 (by rfl) K
  have n1:(IV.nilFunc).refs=some 0:=rfl
  rw[h2]
  simp only[go_sem,hh,refC_of refs_nil,refC_of n1,Bool.not_false,if_true]
  rfl
 ·rw[h1] at h46
  have hh:=fun (R:Type) (K:IV→IM→Option R)=>callC_cw h46 (by rfl) K
  obtain⟨a,b,k,d⟩:=r
  simp only[rowOk,Bool.and_eq_true,decide_eq_true_eq] at h3
  obtain⟨h3,h4,h5,h6,h7⟩:=h3
  rw[h2]
  simp only[rowC] at hh
  simp only[go_sem,hh,refC_of h6,refC_of h7,h30,h47,h28,Bool.not_true,Bool.false_eq_true,if_false,Option.isSome_some,Bool.true_and]
  cases isFlB s with
  |true =>
   simp only[if_true]
  |false =>
   simp only[Bool.false_eq_true,if_false]
   by_cases g1:op=46
   ·subst g1;cases tyOk s<;>simp[C23_c0,C23_c1,go_sem]
   by_cases g2:op=47
   ·subst g2;cases tyOk s<;>simp[C23_c0,C23_c1,go_sem]
   by_cases g3:op=48
   ·subst g3;cases tyOk s<;>simp[C23_c0,C23_c1,go_sem]
   have b1:(op==46)=false:=by simpa using g1
   have b2:(op==47)=false:=by simpa using g2
   have b3:(op==48)=false:=by simpa using g3
   by_cases g4:op=49
   ·subst g4
    cases tyOk s<;>cases (tyR s).2.2<;>simp[C23_c0,C23_c2,go_sem]
   ·simp[C23_c0,go_sem,g1,g2,g3,g4]
theorem call24 (op:Int) (s:List UInt8) (m:IM):cw (.f 24) [.int .i64 op,.str s] m=some (.bool (takR op (isFlB s) (tyOk s) (tyR s).2.2 (Int.tmod (tyR s).2.1 8==0)),m):=by
 have h40:=fun (R:Type) (K:IV→IM→Option R)=>callC_cw (call40 op m) (by simp[go_sem]) K
 have h32:=fun (R:Type) (K:IV→IM→Option R)=>callC_cw (call32 s m) (by simp[go_sem]) K
 have h31:=fun (R:Type) (K:IV→IM→Option R)=>callC_cw (call31 s m) (by simp[go_sem]) K
 have h36:=fun (R:Type) (K:IV→IM→Option R)=>callC_cw (call36 s m) (by simp[go_sem]) K
 apply F24_call
 unfold F24 takR
 rw[h40]
 by_cases k0:fmR op=0
 ·simp[C24_c0,go_sem,k0]
 by_cases k4:fmR op=4
 ·simp[C24_c0,go_sem,k4]
 have c0:C24_c0 op s (fmR op) m=some (.normal,[.int .i64 op,.str s,.bool false],[],m):=by
  simp[C24_c0,go_sem,k0,k4]
 rw[asI_mk,c0,if_neg (fun h=>h.elim k0 k4)]
 cases hf:isFlB s with
 |true =>
  have c1:C24_c1 op m=some (.normal,[.bool (inFl op)],[],m):=by
   unfold inFl
   by_cases g1:op=6
   ·subst g1;simp[C24_c1,go_sem]
   by_cases g2:op=7
   ·subst g2;simp[C24_c1,go_sem]
   by_cases g3:op=8
   ·subst g3;simp[C24_c1,go_sem]
   by_cases g4:op=18
   ·subst g4;simp[C24_c1,go_sem]
   by_cases g5:op=30
   ·subst g5;simp[C24_c1,go_sem]
   by_cases g6:34≤op
   ·simp[C24_c1,go_sem,g1,g2,g3,g4,g5,g6]
   ·simp[C24_c1,go_sem,g1,g2,g3,g4,g5,g6]
  simp only[go_sem,h32,hf,c1,if_true,Bool.false_eq_true,if_false]
 |false =>
  cases ht:tyOk s with
  |false=>simp[go_sem,h32,h31,hf,ht]
  |true =>
   have c2:C24_c2 op (tyR s).2.1 (tyR s).2.2 m=some (.normal,[.int .i64 op,.int .i64 (tyR s).2.1,.bool (tyR s).2.2,.bool (decide (46≤op∧op≤49))],[],m):=by
    by_cases g:46≤op
    ·simp[C24_c2,go_sem,g]
    ·simp[C24_c2,go_sem,g]
   simp only[go_sem,h32,h31,h36,hf,ht,c2,if_true,Bool.false_eq_true,if_false,Bool.not_true]
   by_cases g:46≤op∧op≤49
   ·rw[decide_eq_true g,if_pos g]
    by_cases g9:op=49
    ·subst g9
     cases (tyR s).2.2<;>simp[C24_c3,go_sem]
    ·cases (tyR s).2.2<;>simp[C24_c3,go_sem,g9]
   ·rw[decide_eq_false g,if_neg g]
    simp[go_sem]
def tgB (op:Int) (fl is:Bool):Bool:=if op=42∨op=45 then fl else if op=41 then is||fl else is
def fitB (op:Int) (fl is sg e8:Bool):Bool:=if fmR op=4 then tgB op fl is else takR op fl is sg e8
theorem call60 (op:Int) (s:List UInt8) (m:IM):cw (.f 60) [.int .i64 op,.str s] m=some (.bool (tgB op (isFlB s) (tyOk s)),m):=by
 have h30:=fun (R:Type) (K:IV→IM→Option R)=>callC_cw (call30 s m) (by simp[go_sem]) K
 have h28:=fun (R:Type) (K:IV→IM→Option R)=>callC_cw (call28 s m) (by simp[go_sem]) K
 apply F60_call
 unfold F60 tgB
 simp only[h28,go_sem]
 by_cases g1:op=42
 ·subst g1;simp[C60_c0,go_sem,h30]
 by_cases g2:op=45
 ·subst g2;simp[C60_c0,go_sem,h30]
 by_cases g3:op=41
 ·subst g3
  cases ht:tyOk s<;>simp[C60_c0,C60_c1,go_sem,h30]
 ·simp[C60_c0,go_sem,g1,g2,g3]
theorem call42 (op:Int) (s:List UInt8) (m:IM):cw (.f 42) [.int .i64 op,.str s] m=some (.bool (tgB op (isFlB s) (tyOk s)),m):=by
 have h32:=fun (R:Type) (K:IV→IM→Option R)=>callC_cw (call32 s m) (by simp[go_sem]) K
 have h31:=fun (R:Type) (K:IV→IM→Option R)=>callC_cw (call31 s m) (by simp[go_sem]) K
 apply F42_call
 unfold F42 tgB
 by_cases g1:op=42
 ·subst g1;simp[C42_c0,go_sem,h32]
 by_cases g2:op=45
 ·subst g2;simp[C42_c0,go_sem,h32]
 by_cases g3:op=41
 ·subst g3
  cases ht:tyOk s<;>simp[C42_c0,C42_c1,go_sem,h31,h32,ht]
 ·simp[C42_c0,go_sem,g1,g2,g3,h31]
abbrev fitS (op:Int) (s:List UInt8):Bool:=fitB op (isFlB s) (tyOk s) (tyR s).2.2 (Int.tmod (tyR s).2.1 8==0)
abbrev takS (op:Int) (s:List UInt8):Bool:=takR op (isFlB s) (tyOk s) (tyR s).2.2 (Int.tmod (tyR s).2.1 8==0)
theorem call41 (op:Int) (s:List UInt8):cw (.f 41) [.int .i64 op,.str s] m0=some (.bool (fitS op s),m0):=by
 have h39:=fun (R:Type) (K:IV→IM→Option R)=>callC_cw (call39 op) (by simp[go_sem]) K
 have h60:=fun (R:Type) (K:IV→IM→Option R)=>callC_cw (call60 op s m0) (by simp[go_sem]) K
 have h23:=fun (R:Type) (K:IV→IM→Option R)=>callC_cw (call23 op s) (by simp[go_sem]) K
 apply F41_call
 unfold F41 fitS fitB
 rw[h39,fm_eq]
 by_cases g:fmR op=4
 ·have g':(fmR op==4)=true:=by simpa using g
  rw[if_pos g]
  simp only[go_sem,g',if_true,h60]
 ·have g':(fmR op==4)=false:=by simpa using g
  rw[if_neg g]
  simp only[go_sem,g',Bool.false_eq_true,if_false,h23,tak_eq]
def resB (op:Int) (fit:Bool) (s:List UInt8):List UInt8×Int:=if fit=false then ([],11) else if fmR op=3∨op=39∨op=44 then ([117,49],0) else (s,0)
theorem call17 (op:Int) (s:List UInt8):cw (.f 17) [.int .i64 op,.str s] m0=some (.tup [.str (resB op (fitS op s) s).1,.int .i64 (resB op (fitS op s) s).2],m0):=by
 have h39:=fun (R:Type) (K:IV→IM→Option R)=>callC_cw (call39 op) (by simp[go_sem]) K
 have h41:=fun (R:Type) (K:IV→IM→Option R)=>callC_cw (call41 op s) (by simp[go_sem]) K
 apply F17_call
 unfold F17
 rw[h41]
 cases hf:fitS op s with
 |false =>
  have hr:resB op false s=([],11):=rfl
  rw[hr]
  simp only[go_sem,Bool.not_false,if_true]
  exact settle_id rfl
 |true =>
  have hc:C17_c0 op s m0=some (.normal,[.str s,.bool (decide (fmR op=3∨op=39∨op=44))],[],m0):=by
   by_cases g1:fmR op=3
   ·simp[C17_c0,go_sem,h39,fm_eq,g1]
   ·by_cases g2:op=39
    ·subst g2;simp[C17_c0,go_sem,h39,fm_eq,g1]
    ·simp[C17_c0,go_sem,h39,fm_eq,g1,g2]
     rfl
  by_cases g:fmR op=3∨op=39∨op=44
  ·have hr:resB op true s=([117,49],0):=by
    unfold resB
    rw[if_neg (by decide),if_pos g]
   rw[decide_eq_true g] at hc
   rw[hr]
   simp only[go_sem,Bool.not_true,Bool.false_eq_true,if_false,hc,if_true]
   exact settle_id rfl
  ·have hr:resB op true s=(s,0):=by
    unfold resB
    rw[if_neg (by decide),if_neg g]
   rw[decide_eq_false g] at hc
   rw[hr]
   simp only[go_sem,Bool.not_true,Bool.false_eq_true,if_false,hc,if_true]
   exact settle_id rfl
theorem nofit (op:Int) (s:List UInt8):(fmR op=0∨(fmR op=4∧tgB op (isFlB s) (tyOk s)=false)∨(fmR op≠4∧takS op s=false))↔fitS op s=false:=by
 unfold fitS fitB takS
 by_cases k4:fmR op=4
 ·rw[if_pos k4]
  simp[k4]
 ·rw[if_neg k4]
  by_cases k0:fmR op=0
  ·have:takR op (isFlB s) (tyOk s) (tyR s).2.2 (Int.tmod (tyR s).2.1 8==0)=false:=by
    unfold takR;rw[if_pos (.inl k0)]
   simp[k0,this]
  ·simp[k0,k4]
theorem c18 (op:Int) (s:List UInt8) (m:IM):C18_c0 op s (fmR op) m=some (.normal,[.int .i64 op,.str s,.int .i64 (fmR op),.bool (!fitS op s)],[],m):=by
 have h42:=fun (R:Type) (K:IV→IM→Option R)=>callC_cw (call42 op s m) (by simp[go_sem]) K
 have h24:=fun (R:Type) (K:IV→IM→Option R)=>callC_cw (call24 op s m) (by simp[go_sem]) K
 have hn:=nofit op s
 unfold takS at hn
 unfold C18_c0
 by_cases k0:fmR op=0
 ·rw[hn.1 (.inl k0)]
  simp[go_sem,k0]
 ·by_cases k4:fmR op=4
  ·cases ht:tgB op (isFlB s) (tyOk s) with
   |false =>
    rw[hn.1 (.inr (.inl ⟨k4,ht⟩))]
    simp[go_sem,k4,h42,ht]
   |true =>
    have:fitS op s=true:=by
     unfold fitS fitB;rw[if_pos k4];exact ht
    rw[this]
    simp[go_sem,k4,h42,ht]
  ·have:fitS op s=takR op (isFlB s) (tyOk s) (tyR s).2.2 (Int.tmod (tyR s).2.1 8==0):=by
    unfold fitS fitB;rw[if_neg k4]
   rw[this]
   simp[go_sem,k0,k4,h24]
theorem call18 (op:Int) (s:List UInt8) (m:IM):cw (.f 18) [.int .i64 op,.str s] m=some (.tup [.str (resB op (fitS op s) s).1,.int .i64 (resB op (fitS op s) s).2],m):=by
 have h40:=fun (R:Type) (K:IV→IM→Option R)=>callC_cw (call40 op m) (by simp[go_sem]) K
 apply F18_call
 unfold F18
 rw[h40,asI_mk,c18]
 cases hf:fitS op s with
 |false =>
  have hr:resB op false s=([],11):=rfl
  rw[hr]
  simp only[go_sem,Bool.not_false,if_true]
  exact settle_id rfl
 |true =>
  have hc:C18_c1 op s (fmR op) m=some (.normal,[.str s,.bool (decide (fmR op=3∨op=39∨op=44))],[],m):=by
   by_cases g1:fmR op=3
   ·simp[C18_c1,go_sem,g1]
   ·by_cases g2:op=39
    ·subst g2;simp[C18_c1,go_sem]
    ·simp[C18_c1,go_sem,g1,g2]
     rfl
  by_cases g:fmR op=3∨op=39∨op=44
  ·have hr:resB op true s=([117,49],0):=by
    unfold resB
    rw[if_neg (by decide),if_pos g]
   rw[decide_eq_true g] at hc
   rw[hr]
   simp only[go_sem,Bool.not_true,Bool.false_eq_true,if_false,hc,if_true]
   exact settle_id rfl
  ·have hr:resB op true s=(s,0):=by
    unfold resB
    rw[if_neg (by decide),if_neg g]
   rw[decide_eq_false g] at hc
   rw[hr]
   simp only[go_sem,Bool.not_true,Bool.false_eq_true,if_false,hc,if_true]
   exact settle_id rfl
theorem call21 (s:List UInt8) (m:IM):cw (.f 21) [.str s] m=some (.int .i64 (widR s).2,m):=by
 have h9:=fun (R:Type) (K:IV→IM→Option R)=>callC_cw (call9 s m) (by simp[go_sem]) K
 apply F21_call
 simp[F21,go_sem,h9]
theorem widR_12 (s:List UInt8):(widR s).2=if tyOk s=true∨isFlB s=true∨s=[112,116,114] then 0 else 12:=by
 have h:=widR_ok s
 by_cases q:(widR s).2=0
 ·rw[if_pos (h.1 q),q]
 ·rw[if_neg (fun e=>q (h.2 e))]
  unfold widR at q ⊢
  by_cases h1:s=[112,116,114]
  ·rw[if_pos h1] at q;exact absurd rfl q
  ·by_cases h2:s=[102,51,50]
   ·rw[if_neg h1,if_pos h2] at q;exact absurd rfl q
   ·by_cases h3:s=[102,54,52]
    ·rw[if_neg h1,if_neg h2,if_pos h3] at q;exact absurd rfl q
    ·rw[if_neg h1,if_neg h2,if_neg h3] at q ⊢
     by_cases h4:(tyR s).1=0
     ·rw[if_pos h4] at q;exact absurd rfl q
     ·rw[if_neg h4]
theorem call22 (s:List UInt8) (m:IM):cw (.f 22) [.str s] m=some (.int .i64 (widR s).2,m):=by
 have h32:=fun (R:Type) (K:IV→IM→Option R)=>callC_cw (call32 s m) (by simp[go_sem]) K
 have h31:=fun (R:Type) (K:IV→IM→Option R)=>callC_cw (call31 s m) (by simp[go_sem]) K
 have h45:=fun (b:Bool) (R:Type) (K:IV→IM→Option R)=>callC_cw (call45 b 12 m) (by simp[go_sem]) K
 rw[widR_12]
 apply F22_call
 unfold F22
 have hc:C22_c0 s m=some (.normal,[.int .i64 (if tyOk s=true∨isFlB s=true∨s=[112,116,114] then 0 else 12)],[],m):=by
  cases ht:tyOk s with
  |true=>simp[C22_c0,go_sem,h31,h45,ht]
  |false =>
   cases hf:isFlB s with
   |true=>simp[C22_c0,go_sem,h31,h32,h45,ht,hf]
   |false =>
    by_cases q:s=[112,116,114]
    ·subst q;simp[C22_c0,go_sem,h31,h32,h45,ht,hf]
    ·simp[C22_c0,go_sem,h31,h32,h45,ht,hf,q]
 rw[hc]
 simp[go_sem]
def SlI (V:IV) (l:List Int):Prop:=(V=.nilSlice∧l=[])∨V=slZ l
theorem mapM_int:∀(l:List IV) {ks:List Int},(l.mapM fun | IV.int .i64 k=>some k | _=>none)=some ks→l=ks.map (IV.int .i64)
 |[],ks,h=>by
  simp at h
  subst h;rfl
 |v::r,ks,h=>by
  simp only[List.mapM_cons,Option.bind_eq_bind,Option.bind_eq_some_iff,Option.pure_def,Option.some.injEq] at h
  obtain⟨k,h1,t,h2,rfl⟩:=h
  rw[List.map_cons,←mapM_int r h2]
  split at h1
  ·cases h1;rfl
  ·cases h1
theorem kdI_is {V:IV}{ks:List Int}(h:kdI V=some ks):SlI V ks:=by
 unfold kdI at h
 split at h
 ·cases h;exact .inl ⟨rfl,rfl⟩
 ·rename_i l n
  split at h
  ·rename_i hl
   have hl:=Nat.eq_of_beq_eq_true hl
   have e:=mapM_int l h
   refine .inr ?_
   unfold slZ
   rw[←e,←hl,e,List.length_map]
  ·cases h
 ·cases h
theorem SlI.refs {V:IV}{l:List Int}(h:SlI V l):V.refs=some 0:=by rcases h with ⟨rfl,_⟩ | rfl<;>rfl
theorem SlI.len {V:IV}{l:List Int}(h:SlI V l):POp.ev .lenSlice [V]=some (.int .i64 (l.length:Int)):=by rcases h with ⟨rfl,rfl⟩ | rfl<;>rfl
theorem SlI.notL {R:Type}{V:IV}{l:List Int}(h:SlI V l) (X:Option R):notL V X=X:=notL_of h.refs X
theorem SlI.idx {V:IV}{l:List Int}(h:SlI V l) (i:Nat) (hi:i<l.length):POp.ev (.indexS 1) [V,.int .i64 (i:Int)]=some (.pI (l.map (IV.int .i64)) i):=by
 rcases h with ⟨rfl,rfl⟩ | rfl
 ·simp at hi
 ·exact idx_slZ l i hi
theorem call48 {V:IV}{l:List Int}(h:SlI V l) (hl:l.length≤10) (m:IM):∃V',cw (.f 48) [V] m=some (V',m)∧SlI V' l:=by
 rcases h with ⟨rfl,rfl⟩ | rfl
 ·refine⟨.nilSlice,?_,.inl ⟨rfl,rfl⟩⟩
  have e1:POp.ev (.eq false .slice) [.nilSlice,.nilSlice]=some (.bool true):=rfl
  apply F48_call
  simp only[F48,go_sem,evC_of e1,if_true]
 ·refine⟨slZ l,?_,.inr rfl⟩
  have e1:POp.ev (.eq false .slice) [slZ l,.nilSlice]=some (.bool false):=rfl
  have e2:∀(R:Type) (K:List IV→Nat→Option R),srcP m 1 (slZ l) K=K (l.map (IV.int .i64)) l.length:=fun _ _=>rfl
  have e3:∀(R:Type) (X:Option R),plainC (l.map (IV.int .i64)) X=X:=fun R X=>plainC_of (by simp only[List.all_map,List.all_eq_true];intro x _;rfl) X
  have g1:Nat.beq (l.map (IV.int .i64)).length (l.length*1)=true:=by rw[List.length_map,Nat.mul_one];exact Nat.beq_refl _
  have g2:decide (l.length*8≤maxLenI∧List.length (repl [.int .i64 0] 0)=0*1)=true:=by
   refine decide_eq_true ⟨?_,rfl⟩
   unfold maxLenI
   omega
  apply F48_call
  simp only[F48,go_sem,evC_of e1,e2,e3,g1,g2,Bool.false_eq_true,if_false,if_true,Nat.zero_add]
  rfl
def kn (op:Int) (fit fl:Bool):List Int:=if fit=false then [] else if fmR op=4 then (if op=38∨op=43 then [5] else []) else if fl=true then [] else ((tfd tabL op).map (·.2.2)).getD []
def knC (op:Int):List Int:=if op=6∨op=7∨op=8∨op=30 then [0] else if op=18∨op=19 then [0,3] else if op=20 then [0,3,4] else if op=21∨op=22 then [3] else if op=23∨op=25 then [1] else if op=24 then [1,2] else if op=38∨op=43 then [5] else []
def knR (op:Int) (fit fl:Bool):List Int:=if (fl=true∧fmR op≠4)∨fit=false then [] else knC op
theorem kn_eq (fit fl:Bool) (op:Int):kn op fit fl=knR op fit fl:=by
 refine op_cases (p:=fun op=>kn op fit fl=knR op fit fl) (fun k=>bb fun fit=>bb fun fl=>decide (kn k fit fl=knR k fit fl)) (by decide +kernel) (fun k h=>of_decide_eq_true (bb_all (bb_all h fit) fl)) (fun op h=>?_) op
 unfold kn knR knC
 rw[tfd_out (by omega),fmR_out h]
 repeat rw[if_neg (by omega:¬(op=_∨_))]
 repeat rw[if_neg (by omega:¬(op=_))]
 simp
theorem kn_len (op:Int) (fit fl:Bool):(kn op fit fl).length≤10:=by
 rw[kn_eq]
 unfold knR knC
 repeat' split
 all_goals decide
theorem call26 (op:Int) (s:List UInt8):∃V,cw (.f 26) [.int .i64 op,.str s] m0=some (V,m0)∧SlI V (kn op (fitS op s) (isFlB s)):=by
 obtain⟨e,hok⟩:=rows_is
 have h41:=fun (R:Type) (K:IV→IM→Option R)=>callC_cw (call41 op s) (by simp[go_sem]) K
 have h39:=fun (R:Type) (K:IV→IM→Option R)=>callC_cw (call39 op) (by simp[go_sem]) K
 have h30:=fun (R:Type) (K:IV→IM→Option R)=>callC_cw (call30 s m0) (by simp[go_sem]) K
 have key:∀V,F26 op s m0=some (V,m0)→SlI V (kn op (fitS op s) (isFlB s))→∃V,cw (.f 26) [.int .i64 op,.str s] m0=some (V,m0)∧SlI V (kn op (fitS op s) (isFlB s)):=fun V h1 h2=>⟨V,F26_call _ _ _ h1,h2⟩
 cases hf:fitS op s with
 |false =>
  rw[hf] at key h41
  refine key .nilSlice ?_ (.inl ⟨rfl,rfl⟩)
  simp only[F26,go_sem,h41,Bool.not_false,if_true]
 |true =>
  rw[hf] at key h41
  by_cases k4:fmR op=4
  ·have k4':(fmR op==4)=true:=by simpa using k4
   have hc:C26_c0 op m0=some (.normal,[.bool (decide (op=38∨op=43))],[],m0):=by
    by_cases g:op=38
    ·subst g;simp[C26_c0,go_sem]
    ·simp[C26_c0,go_sem,g]
     rfl
   by_cases g:op=38∨op=43
   ·have hk:kn op true (isFlB s)=[5]:=by unfold kn;rw[if_neg (by decide),if_pos k4,if_pos g]
    rw[hk] at key ⊢
    rw[decide_eq_true g] at hc
    refine key (slZ [5]) ?_ (.inr rfl)
    simp only[F26,go_sem,h41,h39,fm_eq,k4',hc,Bool.not_true,Bool.false_eq_true,if_false,if_true]
    rfl
   ·have hk:kn op true (isFlB s)=[]:=by unfold kn;rw[if_neg (by decide),if_pos k4,if_neg g]
    rw[hk] at key ⊢
    rw[decide_eq_false g] at hc
    refine key .nilSlice ?_ (.inl ⟨rfl,rfl⟩)
    simp only[F26,go_sem,h41,h39,fm_eq,k4',hc,Bool.not_true,Bool.false_eq_true,if_false,if_true]
  ·have k4':(fmR op==4)=false:=by simpa using k4
   cases hl:isFlB s with
   |true =>
    rw[hl] at key h30
    have hk:kn op true true=[]:=by unfold kn;rw[if_neg (by decide),if_neg k4,if_pos rfl]
    rw[hk] at key ⊢
    refine key .nilSlice ?_ (.inl ⟨rfl,rfl⟩)
    simp only[F26,go_sem,h41,h39,fm_eq,k4',h30,Bool.not_true,Bool.false_eq_true,if_false,if_true]
   |false =>
    rw[hl] at key h30
    have hk:kn op true false=((tfd tabL op).map (·.2.2)).getD []:=by unfold kn;rw[if_neg (by decide),if_neg k4,if_neg (by decide)]
    have hlen:=kn_len op true false
    rw[hk] at key hlen ⊢
    have h46:=call46 op
    rcases rowsOk_fnd op hok with ⟨h1,h2⟩ | ⟨r,t,h1,h2,h3⟩
    ·rw[h1] at h46
     rw[h2] at key ⊢
     have hh:=fun (R:Type) (K:IV→IM→Option R)=>callC_cw h46 (by rfl) K
     have n1:(IV.nilFunc).refs=some 0:=rfl
     obtain⟨V',q1,q2⟩:=call48 (V:=.nilSlice) (l:=[]) (.inl ⟨rfl,rfl⟩) (by decide) m0
     have h48:=fun (R:Type) (K:IV→IM→Option R)=>callC_cw q1 (by rfl) K
     refine key V' ?_ q2
     simp only[F26,go_sem,h41,h39,fm_eq,k4',h30,hh,refC_of refs_nil,refC_of n1,h48,Bool.not_true,Bool.false_eq_true,if_false,if_true]
     exact settle_id (rD_of q2.refs)
    ·rw[h1] at h46
     rw[h2] at key hlen ⊢
     have hh:=fun (R:Type) (K:IV→IM→Option R)=>callC_cw h46 (by rfl) K
     obtain⟨a,b,k,d⟩:=r
     simp only[rowOk,Bool.and_eq_true,decide_eq_true_eq] at h3
     obtain⟨h3,h4,h5,h6,h7⟩:=h3
     obtain⟨V',q1,q2⟩:=call48 (kdI_is h5) (by simpa using hlen) m0
     have h48:=fun (R:Type) (K:IV→IM→Option R)=>callC_cw q1 (by rcases kdI_is h5 with ⟨rfl,_⟩ | e<;>first | rfl | (rw[e];rfl)) K
     refine key V' ?_ (by simpa using q2)
     simp only[rowC] at hh
     simp only[F26,go_sem,h41,h39,fm_eq,k4',h30,hh,refC_of h6,refC_of h7,h48,Bool.not_true,Bool.false_eq_true,if_false,if_true]
     exact settle_id (rD_of q2.refs)
theorem c27 (op:Int) (s:List UInt8) (m:IM):C27_c0 op s (fmR op) m=some (.normal,[.int .i64 op,.bool ((isFlB s&&decide (fmR op≠4)) || !fitS op s)],[],m):=by
 have h32:=fun (R:Type) (K:IV→IM→Option R)=>callC_cw (call32 s m) (by simp[go_sem]) K
 have h42:=fun (R:Type) (K:IV→IM→Option R)=>callC_cw (call42 op s m) (by simp[go_sem]) K
 have h24:=fun (R:Type) (K:IV→IM→Option R)=>callC_cw (call24 op s m) (by simp[go_sem]) K
 have hn:=nofit op s
 unfold takS at hn
 unfold C27_c0
 by_cases k0:fmR op=0
 ·rw[hn.1 (.inl k0)]
  cases hl:isFlB s<;>simp[go_sem,h32,k0,hl]
 ·by_cases k4:fmR op=4
  ·cases ht:tgB op (isFlB s) (tyOk s) with
   |false =>
    rw[hn.1 (.inr (.inl ⟨k4,ht⟩))]
    cases hl:isFlB s<;>(rw[hl] at ht h42;simp[go_sem,h32,k4,h42,ht,hl])
   |true =>
    have:fitS op s=true:=by
     unfold fitS fitB;rw[if_pos k4];exact ht
    rw[this]
    cases hl:isFlB s<;>(rw[hl] at ht h42;simp[go_sem,h32,k4,h42,ht,hl])
  ·have:fitS op s=takR op (isFlB s) (tyOk s) (tyR s).2.2 (Int.tmod (tyR s).2.1 8==0):=by
    unfold fitS fitB;rw[if_neg k4]
   rw[this]
   cases hl:isFlB s<;>(rw[hl] at h24;simp[go_sem,h32,k0,k4,h24,hl])
theorem call27 (op:Int) (s:List UInt8) (m:IM):∃V,cw (.f 27) [.int .i64 op,.str s] m=some (V,m)∧SlI V (knR op (fitS op s) (isFlB s)):=by
 have h40:=fun (R:Type) (K:IV→IM→Option R)=>callC_cw (call40 op m) (by simp[go_sem]) K
 have key:∀V,F27 op s m=some (V,m)→SlI V (knR op (fitS op s) (isFlB s))→∃V,cw (.f 27) [.int .i64 op,.str s] m=some (V,m)∧SlI V (knR op (fitS op s) (isFlB s)):=fun V h1 h2=>⟨V,F27_call _ _ _ h1,h2⟩
 unfold F27 at key
 rw[h40,asI_mk,c27] at key
 by_cases g:(isFlB s=true∧fmR op≠4)∨fitS op s=false
 ·have e:((isFlB s&&decide (fmR op≠4)) || !fitS op s)=true:=by
   rcases g with ⟨g1,g2⟩ | g
   ·simp[g1,g2]
   ·simp[g]
  have hk:knR op (fitS op s) (isFlB s)=[]:=by unfold knR;rw[if_pos g]
  rw[e,hk] at key
  rw[hk]
  refine key .nilSlice ?_ (.inl ⟨rfl,rfl⟩)
  simp only[go_sem,if_true]
 ·have e:((isFlB s&&decide (fmR op≠4)) || !fitS op s)=false:=by
   rw[not_or] at g
   have g2:fitS op s=true:=by simpa using g.2
   rw[g2]
   cases hl:isFlB s
   ·simp
   ·have:fmR op=4:=by
     by_cases q:fmR op=4
     ·exact q
     ·exact absurd ⟨hl,q⟩ g.1
    simp[this]
  have hk:knR op (fitS op s) (isFlB s)=knC op:=by unfold knR;rw[if_neg g]
  rw[e,hk] at key
  rw[hk]
  simp only[go_sem,Bool.false_eq_true,if_false] at key
  have b1:C27_c1 op m=some (.normal,[.int .i64 op,.bool (decide (op=6∨op=7∨op=8∨op=30))],[],m):=by
   by_cases q1:op=6
   ·subst q1;simp[C27_c1,go_sem]
   by_cases q2:op=7
   ·subst q2;simp[C27_c1,go_sem]
   by_cases q3:op=8
   ·subst q3;simp[C27_c1,go_sem]
   simp[C27_c1,go_sem,q1,q2,q3]
   rfl
  have b2:C27_c2 op m=some (.normal,[.int .i64 op,.bool (decide (op=18∨op=19))],[],m):=by
   by_cases q1:op=18
   ·subst q1;simp[C27_c2,go_sem]
   simp[C27_c2,go_sem,q1]
   rfl
  have b3:C27_c3 op m=some (.normal,[.int .i64 op,.bool (decide (op=21∨op=22))],[],m):=by
   by_cases q1:op=21
   ·subst q1;simp[C27_c3,go_sem]
   simp[C27_c3,go_sem,q1]
   rfl
  have b4:C27_c4 op m=some (.normal,[.int .i64 op,.bool (decide (op=23∨op=25))],[],m):=by
   by_cases q1:op=23
   ·subst q1;simp[C27_c4,go_sem]
   simp[C27_c4,go_sem,q1]
   rfl
  have b5:C27_c5 op m=some (.normal,[.bool (decide (op=38∨op=43))],[],m):=by
   by_cases q1:op=38
   ·subst q1;simp[C27_c5,go_sem]
   simp[C27_c5,go_sem,q1]
   rfl
  unfold knC at key ⊢
  by_cases g1:op=6∨op=7∨op=8∨op=30
  ·rw[if_pos g1] at key ⊢
   rw[decide_eq_true g1] at b1
   refine key (slZ [0]) ?_ (.inr rfl)
   simp only[go_sem,b1,if_true]
   rfl
  rw[if_neg g1] at key ⊢
  rw[decide_eq_false g1] at b1
  by_cases g2:op=18∨op=19
  ·rw[if_pos g2] at key ⊢
   rw[decide_eq_true g2] at b2
   refine key (slZ [0,3]) ?_ (.inr rfl)
   simp only[go_sem,b1,b2,Bool.false_eq_true,if_false,if_true]
   rfl
  rw[if_neg g2] at key ⊢
  rw[decide_eq_false g2] at b2
  by_cases g3:op=20
  ·have g3':(op==20)=true:=by simpa using g3
   rw[if_pos g3] at key ⊢
   refine key (slZ [0,3,4]) ?_ (.inr rfl)
   simp only[go_sem,b1,b2,g3',Bool.false_eq_true,if_false,if_true]
   rfl
  have g3':(op==20)=false:=by simpa using g3
  rw[if_neg g3] at key ⊢
  by_cases g4:op=21∨op=22
  ·rw[if_pos g4] at key ⊢
   rw[decide_eq_true g4] at b3
   refine key (slZ [3]) ?_ (.inr rfl)
   simp only[go_sem,b1,b2,g3',b3,Bool.false_eq_true,if_false,if_true]
   rfl
  rw[if_neg g4] at key ⊢
  rw[decide_eq_false g4] at b3
  by_cases g5:op=23∨op=25
  ·rw[if_pos g5] at key ⊢
   rw[decide_eq_true g5] at b4
   refine key (slZ [1]) ?_ (.inr rfl)
   simp only[go_sem,b1,b2,g3',b3,b4,Bool.false_eq_true,if_false,if_true]
   rfl
  rw[if_neg g5] at key ⊢
  rw[decide_eq_false g5] at b4
  by_cases g6:op=24
  ·have g6':(op==24)=true:=by simpa using g6
   rw[if_pos g6] at key ⊢
   refine key (slZ [1,2]) ?_ (.inr rfl)
   simp only[go_sem,b1,b2,g3',b3,b4,g6',Bool.false_eq_true,if_false,if_true]
   rfl
  have g6':(op==24)=false:=by simpa using g6
  rw[if_neg g6] at key ⊢
  by_cases g7:op=38∨op=43
  ·rw[if_pos g7] at key ⊢
   rw[decide_eq_true g7] at b5
   refine key (slZ [5]) ?_ (.inr rfl)
   simp only[go_sem,b1,b2,g3',b3,b4,g6',b5,Bool.false_eq_true,if_false,if_true]
   rfl
  ·rw[if_neg g7] at key ⊢
   rw[decide_eq_false g7] at b5
   refine key .nilSlice ?_ (.inl ⟨rfl,rfl⟩)
   simp only[go_sem,b1,b2,g3',b3,b4,g6',b5,Bool.false_eq_true,if_false,if_true]
theorem loop25 {a b:IV}{l:List Int}(ha:SlI a l) (hb:SlI b l) (hl:l.length≤10) (m:IM):∀(j i:Nat),l.length=i+j →
  L25_0 a b i m=some (.exit 0,[],[],m):=by
 intro j
 induction j with
 |zero =>
  intro i hk
  have c1:¬(i:Int)<(l.length:Int):=by omega
  rw[L25_0_eq]
  simp only[B25_0,go_sem,evC_of ha.len,c1,decide_false,Bool.false_eq_true,if_false]
 |succ j ih =>
  intro i hk
  have hi:i<l.length:=by omega
  have c1:(i:Int)<(l.length:Int):=by omega
  have e2:IntKind.i64.wrap ((i:Int)+1)=((i+1:Nat):Int):=by rw[w64 (by omega) (by omega)];rfl
  have na:=fun (R:Type) (X:Option R)=>ha.notL (R:=R) X
  have nb:=fun (R:Type) (X:Option R)=>hb.notL (R:=R) X
  rw[L25_0_eq,←ih (i+1) (by omega)]
  simp only[B25_0,go_sem,evC_of ha.len,c1,decide_true,if_true,evC_of (ha.idx i hi),evC_of (hb.idx i hi),get_slZ l i hi,bne_self_eq_false,Bool.false_eq_true,if_false,na,nb,e2]
  rfl
theorem call25 {a b:IV}{l:List Int}(ha:SlI a l) (hb:SlI b l) (hl:l.length≤10) (m:IM):cw (.f 25) [a,b] m=some (.bool true,m):=by
 have hL:=loop25 ha hb hl m l.length 0 (by omega)
 have hL:L25_0 a b 0 m=_:=hL
 have na:=fun (R:Type) (X:Option R)=>ha.notL (R:=R) X
 have nb:=fun (R:Type) (X:Option R)=>hb.notL (R:=R) X
 apply F25_call
 simp only[F25,go_sem,evC_of ha.len,evC_of hb.len,bne_self_eq_false,Bool.false_eq_true,if_false,na,nb,hL,if_true]
theorem call5o (a:List UInt8) (m:IM):∃r:Bool,cw (.f 5) [.sl [.str a] 1] m=some (.bool r,m):=by
 have d0:decide ((0:Int)<1)=true:=rfl
 have d1:decide ((1:Int)<1)=false:=rfl
 have hlen:POp.ev .lenSlice [.sl [.str a] 1]=some (.int .i64 1):=rfl
 have i0:POp.ev (.indexS 1) [.sl [.str a] 1,.int .i64 0]=some (.pI [.str a] 0):=rfl
 have k0:=fun (R:Type) (K:IV→Option R)=>cutC_false (cs:=[.str a]) (off:=0) (n:=1) (v:=.str a) rfl K
 have nl:∀(R:Type) (X:Option R),notL (.sl [.str a] 1) X=X:=fun _ _=>rfl
 have f1:L5_0 (.sl [.str a] 1) 1 1 m=some (.exit 0,[],[],m):=by
  rw[L5_0_eq]
  simp only[B5_0,go_sem,d1,Bool.false_eq_true,if_false]
 have f0:L5_0 (.sl [.str a] 1) 1 0 m=if ((a.length:Int)>300) then some (.ret,[.bool false],[],m) else some (.exit 0,[],[],m):=by
  rw[L5_0_eq,←f1]
  by_cases q:(a.length:Int)>300
  ·simp only[B5_0,go_sem,d0,evC_of i0,k0,q,decide_true,if_true]
  ·simp only[B5_0,go_sem,d0,evC_of i0,k0,q,decide_false,nl,Bool.false_eq_true,if_false,if_true,wr1]
   rfl
 have key:∀r:Bool,F5 (.sl [.str a] 1) m=some (.bool r,m)→∃r:Bool,cw (.f 5) [.sl [.str a] 1] m=some (.bool r,m):=fun r h=>⟨r,F5_call _ _ h⟩
 by_cases q:(a.length:Int)>300
 ·refine key false ?_
  unfold F5
  rw[evC_of hlen,asI_mk,nl,f0,if_pos q]
  simp only[go_sem,reduceCtorEq,if_false,if_true]
 ·refine key true ?_
  unfold F5
  rw[evC_of hlen,asI_mk,nl,f0,if_neg q]
  simp only[go_sem,if_true]
theorem NM_back:((List.range 70).all fun i=>idxN NM (NM.getD i []) 0==some i)=true:=by decide +kernel
theorem name_back (op:Int) (h:(nameB NM op).2=0):fndB (nameB NM op).1=(op,0):=by
 unfold nameB at h ⊢
 by_cases g:0≤op∧op<NM.length
 ·rw[if_pos g]
  obtain⟨i,rfl⟩:=Int.eq_ofNat_of_zero_le g.1
  have hi:i<70:=by have:NM.length=70:=rfl;omega
  have:=eq_of_beq (List.all_eq_true.1 NM_back i (List.mem_range.2 hi))
  unfold fndB
  simp only[Int.toNat_natCast,this]
 ·rw[if_neg g] at h
  cases h
theorem law4 (op:Int) (s:List UInt8) (kind:Int):cw (.f 4) [.int .i64 op,.str s,.int .i64 kind] m0=some (.bool true,m0):=by
 obtain⟨r,h5⟩:=call5o s m0
 obtain⟨V,q1,q2⟩:=call26 op s
 obtain⟨V',q3,q4⟩:=call27 op s m0
 rw[←kn_eq] at q4
 have h25:=call25 q2 q4 (kn_len _ _ _) m0
 have a5:=fun (R:Type) (K:IV→IM→Option R)=>callC_cw h5 (by rfl) K
 have a8:=fun (R:Type) (K:IV→IM→Option R)=>callC_cw awake8 (by rfl) K
 have a9:=fun (R:Type) (K:IV→IM→Option R)=>callC_cw (call9 s m0) (by simp[go_sem]) K
 have a10:=fun (R:Type) (K:IV→IM→Option R)=>callC_cw (call10 s m0) (by simp[go_sem]) K
 have a11:=fun (R:Type) (K:IV→IM→Option R)=>callC_cw (call11 op) (by simp[go_sem]) K
 have a12:=fun (R:Type) (K:IV→IM→Option R)=>callC_cw (call12 op) (by simp[go_sem]) K
 have a13:=fun (s:List UInt8) (R:Type) (K:IV→IM→Option R)=>callC_cw (call13 s) (by simp[go_sem]) K
 have a14:=fun (R:Type) (K:IV→IM→Option R)=>callC_cw (call14 s) (by simp[go_sem]) K
 have a19:=fun (R:Type) (K:IV→IM→Option R)=>callC_cw (call19 kind) (by simp[go_sem]) K
 have a20:=fun (R:Type) (K:IV→IM→Option R)=>callC_cw (call20 kind) (by simp[go_sem]) K
 have a17:=fun (R:Type) (K:IV→IM→Option R)=>callC_cw (call17 op s) (by simp[go_sem]) K
 have a18:=fun (R:Type) (K:IV→IM→Option R)=>callC_cw (call18 op s m0) (by simp[go_sem]) K
 have a21:=fun (R:Type) (K:IV→IM→Option R)=>callC_cw (call21 s m0) (by simp[go_sem]) K
 have a22:=fun (R:Type) (K:IV→IM→Option R)=>callC_cw (call22 s m0) (by simp[go_sem]) K
 have a23:=fun (R:Type) (K:IV→IM→Option R)=>callC_cw (call23 op s) (by simp[go_sem]) K
 have a24:=fun (R:Type) (K:IV→IM→Option R)=>callC_cw (call24 op s m0) (by simp[go_sem]) K
 have a26:=fun (R:Type) (K:IV→IM→Option R)=>callC_cw q1 (by simp[go_sem]) K
 have a27:=fun (R:Type) (K:IV→IM→Option R)=>callC_cw q3 (by simp[go_sem]) K
 have a25:=fun (R:Type) (K:IV→IM→Option R)=>callC_cw h25 (by rcases q2 with ⟨rfl,_⟩ | rfl<;>rcases q4 with ⟨rfl,_⟩ | rfl<;>rfl) K
 have h39:=call39 op
 have h40:=call40 op m0
 have h15:∃x y,cw (.f 15) [.int .i64 op] m0=some (.tup [.int .i64 x,.int .i64 y],m0)∧cw (.f 16) [.int .i64 op] m0=some (.tup [.int .i64 x,.int .i64 y],m0):=by
  have c39:=fun (R:Type) (K:IV→IM→Option R)=>callC_cw h39 (by simp[go_sem]) K
  have c40:=fun (R:Type) (K:IV→IM→Option R)=>callC_cw h40 (by simp[go_sem]) K
  have c38:=fun (R:Type) (K:IV→IM→Option R)=>callC_cw names38 (by rfl) K
  have hl:(NM.length:Int)=70:=rfl
  by_cases g:op<0
  ·refine⟨0,8,?_,?_⟩
   ·apply F15_call
    simp[F15,C15_c0,go_sem,g]
   ·apply F16_call
    simp[F16,C16_c0,go_sem,g]
  ·by_cases g2:op≥70
   ·refine⟨0,8,?_,?_⟩
    ·apply F15_call
     simp only[F15,C15_c0,go_sem,g,g2,decide_false,decide_true,Bool.false_eq_true,if_false,if_true]
     exact settle_id rfl
    ·apply F16_call
     simp only[F16,C16_c0,go_sem,c38,evC_of (len_slR NM),hl,g,g2,decide_false,decide_true,Bool.false_eq_true,if_false,if_true]
     exact settle_id rfl
   ·refine⟨fmR op,0,?_,?_⟩
    ·apply F15_call
     simp only[F15,C15_c0,go_sem,g,g2,decide_false,Bool.false_eq_true,if_false,c39,fm_eq,if_true]
     exact settle_id rfl
    ·apply F16_call
     simp only[F16,C16_c0,go_sem,c38,evC_of (len_slR NM),hl,g,g2,decide_false,Bool.false_eq_true,if_false,c40,if_true]
     exact settle_id rfl
 obtain⟨x,y,w1,w2⟩:=h15
 have a15:=fun (R:Type) (K:IV→IM→Option R)=>callC_cw w1 (by simp[go_sem]) K
 have a16:=fun (R:Type) (K:IV→IM→Option R)=>callC_cw w2 (by simp[go_sem]) K
 have hc0:C4_c0 op s (widR s).1 (widR s).2 (widR s).1 (widR s).2 (nameB NM op).1 (nameB NM op).2 (nameB NM op).1 (nameB NM op).2 (fndB s).1 (fndB s).2 (fndB s).1 (fndB s).2 x y x y (resB op (fitS op s) s).1 (resB op (fitS op s) s).2 (resB op (fitS op s) s).1 (resB op (fitS op s) s).2 (nameB KN kind).1 (nameB KN kind).2 (nameB KN kind).1 (nameB KN kind).2 m0
   = some (.normal,[.int .i64 op,.str s,.str (nameB NM op).1,.int .i64 (nameB NM op).2,.bool false],[],m0):=by
  simp[C4_c0,go_sem,a21,a22]
 have hc2:C4_c2 op s (nameB NM op).1 (nameB NM op).2 m0=some (.normal,[.int .i64 op,.str s],[],m0):=by
  by_cases g:(nameB NM op).2=0
  ·have hb:=name_back op g
   have g':((nameB NM op).2==0)=true:=by simpa using g
   simp[C4_c2,C4_c1,go_sem,g',a13,hb]
  ·have g':((nameB NM op).2==0)=false:=by simpa using g
   simp[C4_c2,go_sem,g']
 have hc3:C4_c3 op s m0=some (.normal,[.bool true],[],m0):=by
  simp[C4_c3,go_sem,a23,a24,tak_eq,a26,a27,a25,a8]
 apply F4_call
 cases r with
 |false=>simp[F4,go_sem,a5,a8]
 |true =>
  unfold F4
  simp only[a5,a9,a10,a11,a12,a13,a14,a15,a16,a17,a18,a19,a20,go_sem,Bool.not_true,Bool.false_eq_true,if_false,hc0,hc2,hc3,if_true,reduceCtorEq]
end Go.Idl
