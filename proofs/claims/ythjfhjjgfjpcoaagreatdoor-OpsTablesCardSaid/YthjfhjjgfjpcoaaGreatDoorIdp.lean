/- This text proves what the interpreter returns at the functions that OpsTables reaches, first part; it has no conditions. -/
import Derived.Test.YthjfhjjgfjpcoaaGreatDoorIdl
import Derived.Test.YthjfhjjgfjpcoaaGreatDoorIdn
import Derived.Test.YthjfhjjgfjpcoaaGreatDoorIdo
set_option linter.unusedSimpArgs false
set_option linter.unusedVariables false
namespace Go.Idl
theorem ak0:cw (.f 33) [.int .i64 6,.str [105,56],.int .u64 127,.int .u64 1] ⟨[],0⟩=some (.tup [.int .u64 128,.int .i64 0,.int .i64 0],⟨[],0⟩):=cw_of 400 (by kernel_rfl)
theorem ak1:cw (.f 33) [.int .i64 12,.str [105,56],.int .u64 127,.int .u64 1] ⟨[],0⟩=some (.tup [.int .u64 127,.int .i64 (-1),.int .i64 0],⟨[],0⟩):=cw_of 400 (by kernel_rfl)
theorem ak2:cw (.f 33) [.int .i64 15,.str [105,56],.int .u64 127,.int .u64 1] ⟨[],0⟩=some (.tup [.int .u64 1,.int .i64 (-1),.int .i64 0],⟨[],0⟩):=cw_of 400 (by kernel_rfl)
theorem ak3:cw (.f 33) [.int .i64 18,.str [105,56],.int .u64 128,.int .u64 255] ⟨[],0⟩=some (.tup [.int .u64 128,.int .i64 0,.int .i64 0],⟨[],0⟩):=cw_of 400 (by kernel_rfl)
theorem ak4:cw (.f 33) [.int .i64 21,.str [105,56],.int .u64 128,.int .u64 255] ⟨[],0⟩=some (.tup [.int .u64 0,.int .i64 (-1),.int .i64 0],⟨[],0⟩):=cw_of 400 (by kernel_rfl)
theorem ak5:cw (.f 33) [.int .i64 20,.str [117,56],.int .u64 7,.int .u64 2] ⟨[],0⟩=some (.tup [.int .u64 3,.int .i64 4,.int .i64 0],⟨[],0⟩):=cw_of 400 (by kernel_rfl)
theorem ak6:cw (.f 33) [.int .i64 18,.str [117,56],.int .u64 7,.int .u64 0] ⟨[],0⟩=some (.tup [.int .u64 0,.int .i64 3,.int .i64 0],⟨[],0⟩):=cw_of 400 (by kernel_rfl)
theorem ak7:cw (.f 33) [.int .i64 23,.str [117,56],.int .u64 129,.int .u64 1] ⟨[],0⟩=some (.tup [.int .u64 2,.int .i64 (-1),.int .i64 0],⟨[],0⟩):=cw_of 400 (by kernel_rfl)
theorem ak8:cw (.f 33) [.int .i64 24,.str [117,56],.int .u64 129,.int .u64 1] ⟨[],0⟩=some (.tup [.int .u64 2,.int .i64 2,.int .i64 0],⟨[],0⟩):=cw_of 400 (by kernel_rfl)
theorem ak9:cw (.f 33) [.int .i64 23,.str [117,56],.int .u64 129,.int .u64 8] ⟨[],0⟩=some (.tup [.int .u64 0,.int .i64 1,.int .i64 0],⟨[],0⟩):=cw_of 400 (by kernel_rfl)
theorem ak10:cw (.f 33) [.int .i64 25,.str [105,56],.int .u64 254,.int .u64 1] ⟨[],0⟩=some (.tup [.int .u64 255,.int .i64 (-1),.int .i64 0],⟨[],0⟩):=cw_of 400 (by kernel_rfl)
theorem ak11:cw (.f 34) [.int .i64 38,.str [105,49,54],.str [117,56],.int .u64 300] ⟨[],0⟩=some (.tup [.int .u64 44,.int .i64 5,.int .i64 0],⟨[],0⟩):=cw_of 400 (by kernel_rfl)
theorem ak12:cw (.f 11) [.int .i64 9] ⟨[],0⟩=some (.tup [.str [97,100,100,119,114,97,112],.int .i64 0],⟨[],0⟩):=cw_of 2000 (by kernel_rfl)
theorem ak13:cw (.f 15) [.int .i64 34] ⟨[],0⟩=some (.tup [.int .i64 3,.int .i64 0],⟨[],0⟩):=cw_of 400 (by kernel_rfl)
def akL:List (Nat×List IV×IV):=[(33,[.int .i64 6,.str [105,56],.int .u64 127,.int .u64 1],.tup [.int .u64 128,.int .i64 0,.int .i64 0]),(33,[.int .i64 12,.str [105,56],.int .u64 127,.int .u64 1],.tup [.int .u64 127,.int .i64 (-1),.int .i64 0]),(33,[.int .i64 15,.str [105,56],.int .u64 127,.int .u64 1],.tup [.int .u64 1,.int .i64 (-1),.int .i64 0]),(33,[.int .i64 18,.str [105,56],.int .u64 128,.int .u64 255],.tup [.int .u64 128,.int .i64 0,.int .i64 0]),(33,[.int .i64 21,.str [105,56],.int .u64 128,.int .u64 255],.tup [.int .u64 0,.int .i64 (-1),.int .i64 0]),(33,[.int .i64 20,.str [117,56],.int .u64 7,.int .u64 2],.tup [.int .u64 3,.int .i64 4,.int .i64 0]),(33,[.int .i64 18,.str [117,56],.int .u64 7,.int .u64 0],.tup [.int .u64 0,.int .i64 3,.int .i64 0]),(33,[.int .i64 23,.str [117,56],.int .u64 129,.int .u64 1],.tup [.int .u64 2,.int .i64 (-1),.int .i64 0]),(33,[.int .i64 24,.str [117,56],.int .u64 129,.int .u64 1],.tup [.int .u64 2,.int .i64 2,.int .i64 0]),(33,[.int .i64 23,.str [117,56],.int .u64 129,.int .u64 8],.tup [.int .u64 0,.int .i64 1,.int .i64 0]),(33,[.int .i64 25,.str [105,56],.int .u64 254,.int .u64 1],.tup [.int .u64 255,.int .i64 (-1),.int .i64 0]),(34,[.int .i64 38,.str [105,49,54],.str [117,56],.int .u64 300],.tup [.int .u64 44,.int .i64 5,.int .i64 0]),(11,[.int .i64 9],.tup [.str [97,100,100,119,114,97,112],.int .i64 0]),(15,[.int .i64 34],.tup [.int .i64 3,.int .i64 0])]
theorem ak_ok:okL akL:=by
 intro f as v h
 simp only[akL,List.mem_cons,Prod.mk.injEq,List.not_mem_nil,or_false] at h
 rcases h with ⟨rfl,rfl,rfl⟩ | ⟨rfl,rfl,rfl⟩ | ⟨rfl,rfl,rfl⟩ | ⟨rfl,rfl,rfl⟩ | ⟨rfl,rfl,rfl⟩ | ⟨rfl,rfl,rfl⟩ | ⟨rfl,rfl,rfl⟩ | ⟨rfl,rfl,rfl⟩ | ⟨rfl,rfl,rfl⟩ | ⟨rfl,rfl,rfl⟩ | ⟨rfl,rfl,rfl⟩ | ⟨rfl,rfl,rfl⟩ | ⟨rfl,rfl,rfl⟩ | ⟨rfl,rfl,rfl⟩
 ·exact ak0
 ·exact ak1
 ·exact ak2
 ·exact ak3
 ·exact ak4
 ·exact ak5
 ·exact ak6
 ·exact ak7
 ·exact ak8
 ·exact ak9
 ·exact ak10
 ·exact ak11
 ·exact ak12
 ·exact ak13
theorem f8:tab.fns 8=some i8:=by rfl
theorem p8:prims 8=none:=by rfl
theorem awake8:cw (.f 8) [] ⟨[],0⟩=some (.bool true,⟨[],0⟩):=by
 unfold cw
 rw[callW_fn p8 f8]
 exact fcall_mono (tc_le ak_ok) (tl_le ak_ok 40) (resE_s (x:=i8.call (tc akL) (tl akL 40) [] ⟨[],0⟩) (by kernel_rfl))
theorem callC_cw {R:Type}{c:Callee}{vs:List IV}{m m':IM}{v:IV}(h:cw c vs m=some (v,m')) (hr:(refsAll (vs.flatMap IV.cells)).isSome=true) (K:IV→IM→Option R):callC cw c vs [] m K=K v m':=callC_of h hr K
def digB (b:UInt8):Bool:=Nat.ble 48 b.toNat&&Nat.ble b.toNat 57
def digsB:List UInt8→Bool
 |[]=>true
 |b::r=>digB b&&digsB r
def isNumB (s:List UInt8):Bool:=digsB s&&(decide (s≠[])&&(decide (s=[48])||decide (s.head?≠some 48)))
def valB (s:List UInt8):Nat:=(atoB 0 s).getD 0
def tyR:List UInt8→Int×Int×Bool
 |[]=>(6,0,false)
 |c::d=>if (c=117∨c=105)∧isNumB d=true∧d.length≤3 then
   (if 64<valB d∨(valB d=0∧c=105) then (3,0,false) else (0,(valB d:Int),decide (c=105)))
  else (6,0,false)
def tyOk (s:List UInt8):Bool:=decide ((tyR s).1=0)
def isFlB (s:List UInt8):Bool:=decide (s=[102,51,50])||decide (s=[102,54,52])
def widR (s:List UInt8):Int×Int :=
 if s=[112,116,114] then (64,0) else if s=[102,51,50] then (32,0) else if s=[102,54,52] then (64,0) else if (tyR s).1=0 then ((tyR s).2.1,0) else (0,12)
theorem atoB_digs:∀(s:List UInt8) (a:Nat),digsB s=true→∃n,atoB a s=some n∧n<(a+1)*10^s.length
 |[],a,_=>⟨a,rfl,by simp⟩
 |b::r,a,h=>by
  simp only[digsB,digB,Bool.and_eq_true] at h
  obtain⟨⟨h1,h2⟩,h3⟩:=h
  have h2':=Nat.le_of_ble_eq_true h2
  obtain⟨n,e,hn⟩:=atoB_digs r (a*10+(b.toNat-48)) h3
  refine⟨n,by rw[atoB,h1,h2];exact e,Nat.lt_of_lt_of_le hn ?_⟩
  rw[List.length_cons,Nat.pow_succ,Nat.mul_comm (10^r.length) 10,←Nat.mul_assoc]
  exact Nat.mul_le_mul_right _ (by omega)
theorem valB_lt {s:List UInt8}(h:digsB s=true) (hl:s.length≤3):atoB 0 s=some (valB s)∧valB s<1000:=by
 obtain⟨n,e,hn⟩:=atoB_digs s 0 h
 have:10^s.length≤10^3:=Nat.pow_le_pow_right (by decide) hl
 refine⟨by rw[valB,e];rfl,?_⟩
 rw[valB,e]
 simp only[Option.getD_some]
 omega
theorem isNumB_digs {s:List UInt8}(h:isNumB s=true):digsB s=true:=by
 simp only[isNumB,Bool.and_eq_true] at h
 exact h.1
end Go.Idl
namespace Go.Idl
attribute [local go_sem] uV_cons uI_cons gI gS iteC_if grd_if asI_mk asB_mk asS_mk asA_mk asT_mk asP_mk asP0_mk unc_cons unn_nil unb_cons unbn_nil asC_mk asIt_mk nilV_nil exC_if bindX_mk bindX_none refsC_nil refsC_cons plainC_nil plainC_cons ldP_pI ldP_pB nxt_inl nxt_inr nxt_if rA_nil rA_cons rD_of rD_int rD_bool rD_str rD_agg rD_tup go_nil go_cons elR_agg elR_int elR_bool elR_str elR_of refs_int refs_bool refs_str refs_nil refs_sl settle_id settle_set refsAll_nil refsAll_isSome refs_pB refs_fn cells_int cells_bool cells_str cells_pB cells_agg cells_fn cells_nil cells_sl List.flatMap_cons List.flatMap_nil
theorem dec_hd {s:List UInt8}{k:Nat}(h:k<s.length):(s[k].toNat<128→Utf8.decode ⟨⟨s⟩⟩ k=(s[k].toNat,1))∧(128≤s[k].toNat→128≤(Utf8.decode ⟨⟨s⟩⟩ k).1):=by
 have hg:((ByteArray.mk ⟨s⟩).get! (k+0)).toNat=s[k].toNat:=by
  simp[ByteArray.get!,h]
 rw[Utf8.decode.eq_1]
 simp only[hg]
 refine⟨fun q=>by rw[if_pos q],fun q=>?_⟩
 rw[if_neg (by omega)]
 repeat' split
 all_goals (try simp only[Utf8.runeError])
 all_goals first
  |decide
  |(rename_i h1;simp only[ge_iff_le,Bool.and_eq_true,decide_eq_true_eq] at h1;omega)
  |omega
theorem call159 (c:Int) (m:IM):cw (.f 159) [.int .u8 c] m=some (.bool (decide (48≤c)&&decide (c≤57)),m):=by
 apply F159_call
 by_cases h1:48≤c<;>simp[F159,C159_c0,go_sem,h1]
theorem loop130 (s:List UInt8) (m:IM):∀(j k:Nat),s.length=k+j →
  L130_0 s s k m=some (if digsB (s.drop k)=true then (.exit 0,[.str s],[],m) else (.ret,[.bool false],[],m)):=by
 intro j
 induction j with
 |zero =>
  intro k hk
  have e:s.drop k=[]:=List.drop_eq_nil_iff.2 (by omega)
  have c1:¬k<s.length:=by omega
  rw[e,L130_0_eq]
  simp[B130_0,C130_c0,go_sem,c1,digsB]
 |succ j ih =>
  intro k hk
  have hi:k<s.length:=by omega
  obtain⟨d1,d2⟩:=dec_hd hi
  rw[List.drop_eq_getElem_cons hi,L130_0_eq]
  have ex:∀(c:Int) (i:Int),POp.ev (.extract 2) [.tup [.bool true,.int .i64 i,.int .i32 c]]=some (.int .i32 c):=fun _ _=>rfl
  by_cases g:s[k].toNat<128
  ·rw[B130_0,C130_c0,d1 g]
   by_cases g1:48≤s[k].toNat∧s[k].toNat≤57
   ·have b1:Nat.ble 48 s[k].toNat=true:=Nat.ble_eq_true_of_le g1.1
    have b2:Nat.ble s[k].toNat 57=true:=Nat.ble_eq_true_of_le g1.2
    have c1:¬((s[k].toNat:Int)<48):=by omega
    have c2:¬((57:Int)<(s[k].toNat:Int)):=by omega
    simp only[digsB,digB,b1,b2,Bool.and_self,Bool.true_and]
    rw[←ih (k+1) (by omega)]
    simp only[go_sem,hi,decide_true,if_true,evC_of (ex _ _),C130_c1,c1,c2,decide_false,Bool.false_eq_true,if_false,gt_iff_lt]
    rfl
   ·have b1:digB s[k]=false:=by
     simp only[digB,Bool.and_eq_false_iff]
     by_cases q:48≤s[k].toNat
     ·exact .inr (Bool.eq_false_iff.2 fun e=>g1 ⟨q,Nat.le_of_ble_eq_true e⟩)
     ·exact .inl (Bool.eq_false_iff.2 fun e=>q (Nat.le_of_ble_eq_true e))
    simp only[digsB,b1,Bool.false_and,Bool.false_eq_true,if_false]
    by_cases c1:(s[k].toNat:Int)<48
    ·simp[go_sem,hi,evC_of (ex _ _),C130_c1,c1]
    ·have c2:(57:Int)<(s[k].toNat:Int):=by omega
     simp[go_sem,hi,evC_of (ex _ _),C130_c1,c1,c2]
  ·have q:=d2 (by omega)
   have b1:digB s[k]=false:=by
    simp only[digB,Bool.and_eq_false_iff]
    exact .inr (Bool.eq_false_iff.2 fun e=>by have:=Nat.le_of_ble_eq_true e;omega)
   simp only[digsB,b1,Bool.false_and,Bool.false_eq_true,if_false]
   rw[B130_0,C130_c0]
   generalize Utf8.decode ⟨⟨s⟩⟩ k=r at q
   have c1:¬((r.1:Int)<48):=by omega
   have c2:(57:Int)<(r.1:Int):=by omega
   simp[go_sem,hi,evC_of (ex _ _),C130_c1,c1,c2]
theorem idx0 {b:UInt8}{r:List UInt8}:POp.ev .idxStr [.str (b::r),.int .i64 0]=some (.int .u8 b.toNat):=rfl
theorem call130 (s:List UInt8) (m:IM):cw (.f 130) [.str s] m=some (.bool (isNumB s),m):=by
 apply F130_call
 unfold F130
 rw[loop130 s m s.length 0 (by omega),List.drop_zero]
 cases h:digsB s with
 |false=>simp[go_sem,isNumB,h]
 |true =>
  cases s with
  |nil=>simp[go_sem,C130_c2,isNumB,digsB]
  |cons b r =>
   by_cases g:b::r=[48]
   ·rw[g];simp[go_sem,C130_c2,isNumB,digsB,digB]
   ·have e1:((b::r)==[48])=false:=by simpa using g
    have e2:((b::r)==([]:List UInt8))=false:=rfl
    have e3:((b.toNat:Int) != 48)=decide (b≠48):=by
     by_cases q:b=48
     ·subst q;rfl
     ·have:(b.toNat:Int)≠48:=fun e=>q (UInt8.toNat_inj.1 (by show b.toNat=48;omega))
      simp[q,this]
    simp[go_sem,C130_c2,evC_of idx0,isNumB,h,e1,e2,e3,g]
theorem mupC_of {R:Type}{m:IM}{id:Nat}{d:EqD}{k v:IV}{es es':List (IV×IV)}(h:m.get id=.map es) (hu:updI d k v es=some es') (hp:(v.plain&&k.plain)=true) (K:IM→Option R) :
  mupC m d (.map id) k v K=K (setM m id (.map es')):=by
 unfold mupC
 simp only[h,hu,hp]
 rfl
theorem lkpC_some {R:Type}{m:IM}{id:Nat}{d:EqD}{z k v:IV}{es:List (IV×IV)}(h:m.get id=.map es) (hu:findI d k es=some (some v)) (K:IV→Option R) :
  lkpC m d z true (.map id) k K=K (.tup [v,.bool true]):=by
 unfold lkpC
 simp only[h,hu]
theorem lkpC_none {R:Type}{m:IM}{id:Nat}{d:EqD}{z k:IV}{es:List (IV×IV)}(h:m.get id=.map es) (hu:findI d k es=some none) (K:IV→Option R) :
  lkpC m d z true (.map id) k K=K (.tup [z,.bool false]):=by
 unfold lkpC
 simp only[h,hu]
theorem call131 (s:List UInt8) (n:Nat) (h:atoB 0 s=some n) (h0:s≠[]) (hl:s.length≤18) (m:IM):cw (.f 131) [.str s] m=some (.tup [.int .i64 n,.nilIface],m):=by
 cases s with
 |nil=>exact absurd rfl h0
 |cons b r =>
  unfold cw
  rw[callW_prim (p:=pAtoi) rfl]
  have hb:Nat.ble r.length 17=true:=Nat.ble_eq_true_of_le (by rw[List.length_cons] at hl;omega)
  simp[pAtoi,hb,h]
theorem slcT (s:List UInt8) (a:Nat) (h:a≤s.length):POp.ev (.sliceStr false true) [.str s,.int .i64 (a:Int)]=some (.str (s.take a)):=by
 have c2:(a:Int)≤(s.length:Int):=by omega
 have c3:(0:Int)≤(a:Int):=by omega
 simp[POp.ev,loHi,bnds,bnd,c2,c3]
theorem slcF (s:List UInt8) (a:Nat) (h:a≤s.length):POp.ev (.sliceStr true false) [.str s,.int .i64 (a:Int)]=some (.str (s.drop a)):=by
 have c2:(a:Int)≤(s.length:Int):=by omega
 have c3:(0:Int)≤(a:Int):=by omega
 have htk:(s.drop a).take (s.length-a)=s.drop a:=List.take_of_length_le (by simp)
 simp[POp.ev,loHi,bnds,bnd,c2,c3,htk]
theorem slc1 (c:UInt8) (d:List UInt8):POp.ev (.sliceStr false true) [.str (c::d),.int .i64 1]=some (.str [c]):=slcT (c::d) 1 (by simp)
theorem slc2 (c:UInt8) (d:List UInt8):POp.ev (.sliceStr true false) [.str (c::d),.int .i64 1]=some (.str d):=slcF (c::d) 1 (by simp)
def ui0:List (IV×IV):=[(.str [117],.bool false),(.str [105],.bool true)]
theorem ui_find (c:UInt8):findI .str (.str [c]) ui0=some (if c=117 then some (.bool false) else if c=105 then some (.bool true) else none):=by
 by_cases h1:c=117
 ·subst h1;rfl
 ·by_cases h2:c=105
  ·subst h2;rfl
  ·have q1:(([c]:List UInt8)==[117])=false:=by simpa using h1
   have q2:(([c]:List UInt8)==[105])=false:=by simpa using h2
   simp only[findI,ui0,keyEq]
   rw[if_neg h1,if_neg h2,q1,q2]
theorem eq2 (n:Nat) (b:Bool):POp.ev (.eqAgg false [(0,.int),(1,.bool)]) [.agg [.int .i64 (n:Int),.bool b],.agg [.int .i64 0,.bool true]]=some (.bool (decide (n=0)&&b)):=by
 have h:(((n:Int)==0))=decide (n=0):=by
  by_cases q:n=0
  ·subst q;rfl
  ·have:(n:Int)≠0:=by omega
   simp[q,this]
 cases b<;>by_cases q:n=0<;>simp[POp.ev,eqPlan,eqS,h,q]
def tyS (s:List UInt8):List UInt8:=if (tyR s).1=0 then s else []
theorem call67 (s:List UInt8) (m:IM):cw (.f 67) [.str s] m=some (.tup [.agg [.int .i64 (tyR s).2.1,.bool (tyR s).2.2,.str (tyS s)],.int .i64 (tyR s).1],m):=by
 have hm:(pushM m (.map [])).get m.size=.map []:=get_pushM _ _
 have hs1:setM (pushM m (.map [])) m.size (.map [(.str [117],.bool false)])=pushM m (.map [(.str [117],.bool false)]):=setM_pushM _ _ _
 have hm1:(pushM m (.map [(.str [117],.bool false)])).get m.size=.map [(.str [117],.bool false)]:=get_pushM _ _
 have hs2:setM (pushM m (.map [(.str [117],.bool false)])) m.size (.map ui0)=pushM m (.map ui0):=setM_pushM _ _ _
 have hm2:(pushM m (.map ui0)).get m.size=.map ui0:=get_pushM _ _
 have hset:∀(v:IV),v.refsDeep=some 0→settle m (pushM m (.map ui0)) v=some (v,m):=fun v hv=>settle_push hv
 have u1:=fun (R:Type) (K:IM→Option R)=>mupC_of (R:=R) (d:=.str) (k:=.str [117]) (v:=.bool false) hm (es':=[(.str [117],.bool false)]) rfl rfl K
 have u2:=fun (R:Type) (K:IM→Option R)=>mupC_of (R:=R) (d:=.str) (k:=.str [105]) (v:=.bool true) hm1 (es':=ui0) rfl rfl K
 apply F67_call
 cases s with
 |nil =>
  have l1:=fun (R:Type) (K:IV→Option R)=>lkpC_none (R:=R) (d:=.str) (z:=.bool false) (k:=.str []) hm2 rfl K
  simp only[F67,C67_c0,C67_c1,go_sem,u1,u2,hs1,hs2,l1,beq_self_eq_true,Bool.not_true,Bool.false_eq_true,if_false,Bool.not_false,if_true]
  exact hset _ rfl
 |cons c d =>
  have e0:((c::d)==([]:List UInt8))=false:=rfl
  by_cases h1:c=117∨c=105
  ·have hf:findI .str (.str [c]) ui0=some (some (.bool (decide (c=105)))):=by
    rw[ui_find]
    rcases h1 with rfl | rfl<;>rfl
   have l1:=fun (R:Type) (K:IV→Option R)=>lkpC_some (R:=R) (d:=.str) (z:=.bool false) (k:=.str [c]) hm2 hf K
   have h130:=fun (R:Type) (K:IV→IM→Option R)=>callC_cw (call130 d (pushM m (.map ui0))) (by simp[go_sem]) K
   by_cases h2:isNumB d=true
   ·by_cases h3:d.length≤3
    ·have c3:¬((d.length:Int)>3):=by omega
     obtain⟨hat,hlt⟩:=valB_lt (isNumB_digs h2) h3
     have hne:d≠[]:=by
      intro e;subst e;cases h2
     have h131:=fun (R:Type) (K:IV→IM→Option R)=>callC_cw (call131 d (valB d) hat hne (by omega) (pushM m (.map ui0))) (by simp[go_sem]) K
     have heq:POp.ev (.eqAgg false [(0,.int),(1,.bool)]) [.agg [.int .i64 (valB d:Int),.bool (decide (c=105))],.agg [.int .i64 0,.bool true]]=some (.bool (decide (valB d=0∧c=105))):=by
      rw[eq2]
      congr 2
      simp[Bool.decide_and]
     by_cases h4:64<valB d
     ·have c4:((valB d:Int)>64):=by omega
      have ht:tyR (c::d)=(3,0,false):=by
       simp only[tyR]
       rw[if_pos ⟨h1,h2,h3⟩,if_pos (.inl h4)]
      simp only[F67,C67_c0,C67_c1,C67_c2,go_sem,u1,u2,hs1,hs2,l1,e0,evC_of (slc1 c d),evC_of (slc2 c d),h130,h2,h131,c3,c4,decide_true,decide_false,Bool.not_true,Bool.false_eq_true,if_false,Bool.not_false,if_true,tyS,ht]
      exact hset _ rfl
     ·have c4:¬((valB d:Int)>64):=by omega
      by_cases h5:valB d=0∧c=105
      ·have ht:tyR (c::d)=(3,0,false):=by
        simp only[tyR]
        rw[if_pos ⟨h1,h2,h3⟩,if_pos (.inr h5)]
       rw[decide_eq_true h5] at heq
       simp only[F67,C67_c0,C67_c1,C67_c2,go_sem,u1,u2,hs1,hs2,l1,e0,evC_of (slc1 c d),evC_of (slc2 c d),h130,h2,h131,c3,c4,evC_of heq,decide_true,decide_false,Bool.not_true,Bool.false_eq_true,if_false,Bool.not_false,if_true,tyS,ht]
       exact hset _ rfl
      ·rw[decide_eq_false h5] at heq
       have ht:tyR (c::d)=(0,(valB d:Int),decide (c=105)):=by
        simp only[tyR]
        rw[if_pos ⟨h1,h2,h3⟩,if_neg (fun e=>e.elim h4 h5)]
       simp only[F67,C67_c0,C67_c1,C67_c2,go_sem,u1,u2,hs1,hs2,l1,e0,evC_of (slc1 c d),evC_of (slc2 c d),h130,h2,h131,c3,c4,evC_of heq,decide_true,decide_false,Bool.not_true,Bool.false_eq_true,if_false,Bool.not_false,if_true,tyS,ht]
       exact hset _ rfl
    ·have c3:((d.length:Int)>3):=by omega
     have ht:tyR (c::d)=(6,0,false):=by
      simp only[tyR]
      rw[if_neg (fun e=>h3 e.2.2)]
     simp only[F67,C67_c0,C67_c1,go_sem,u1,u2,hs1,hs2,l1,e0,evC_of (slc1 c d),evC_of (slc2 c d),h130,h2,c3,decide_true,Bool.not_true,Bool.false_eq_true,if_false,Bool.not_false,if_true,tyS,ht]
     exact hset _ rfl
   ·have h2':isNumB d=false:=Bool.eq_false_iff.2 h2
    have ht:tyR (c::d)=(6,0,false):=by
     simp only[tyR]
     rw[if_neg (fun e=>h2 e.2.1)]
    simp only[F67,C67_c0,C67_c1,go_sem,u1,u2,hs1,hs2,l1,e0,evC_of (slc1 c d),evC_of (slc2 c d),h130,h2',Bool.not_true,Bool.false_eq_true,if_false,Bool.not_false,if_true,tyS,ht]
    exact hset _ rfl
  ·have hf:findI .str (.str [c]) ui0=some none:=by
    rw[ui_find,if_neg (fun e=>h1 (.inl e)),if_neg (fun e=>h1 (.inr e))]
   have l1:=fun (R:Type) (K:IV→Option R)=>lkpC_none (R:=R) (d:=.str) (z:=.bool false) (k:=.str [c]) hm2 hf K
   have ht:tyR (c::d)=(6,0,false):=by
    simp only[tyR]
    rw[if_neg (fun e=>h1 e.1)]
   simp only[F67,C67_c0,C67_c1,go_sem,u1,u2,hs1,hs2,l1,e0,evC_of (slc1 c d),evC_of (slc2 c d),Bool.not_true,Bool.false_eq_true,if_false,Bool.not_false,if_true,tyS,ht]
   exact hset _ rfl
theorem call49 (s:List UInt8) (m:IM):cw (.f 49) [.str s] m=some (.tup [.int .i64 (tyR s).2.1,.bool (tyR s).2.2,.int .i64 (tyR s).1],m):=by
 have h:=fun (R:Type) (K:IV→IM→Option R)=>callC_cw (call67 s m) (by simp[go_sem]) K
 apply F49_call
 simp[F49,go_sem,h]
theorem call28 (s:List UInt8) (m:IM):cw (.f 28) [.str s] m=some (.tup [.agg [.int .i64 (tyR s).2.1,.bool (tyR s).2.2],.bool (tyOk s)],m):=by
 have h:=fun (R:Type) (K:IV→IM→Option R)=>callC_cw (call49 s m) (by simp[go_sem]) K
 have e:((tyR s).1==0)=tyOk s:=by
  simp only[tyOk]
  by_cases q:(tyR s).1=0<;>simp[q]
 apply F28_call
 simp[F28,go_sem,h,e]
theorem tyR_bad (s:List UInt8) (h:¬(tyR s).1=0):(tyR s).2=(0,false):=by
 cases s with
 |nil=>rfl
 |cons c d =>
  by_cases h1:(c=117∨c=105)∧isNumB d=true∧d.length≤3
  ·by_cases h2:64<valB d∨valB d=0∧c=105
   ·simp only[tyR];rw[if_pos h1,if_pos h2]
   ·simp only[tyR] at h;rw[if_pos h1,if_neg h2] at h;exact absurd rfl h
  ·simp only[tyR];rw[if_neg h1]
theorem call35 (b:Bool) (e:Int) (m:IM):cw (.f 35) [.bool b,.int .i64 e] m=some (.int .i64 (if b then e else 0),m):=by
 apply F35_call
 cases b<;>simp[F35,go_sem]
theorem flt0:POp.ev (.idxArr 2 true 2) [.agg [.str [102,51,50],.int .i64 32,.str [102,54,52],.int .i64 64],.int .i64 0]=some (.agg [.str [102,51,50],.int .i64 32]):=rfl
theorem flt1:POp.ev (.idxArr 2 true 2) [.agg [.str [102,51,50],.int .i64 32,.str [102,54,52],.int .i64 64],.int .i64 1]=some (.agg [.str [102,54,52],.int .i64 64]):=rfl
theorem wr1:IntKind.i64.wrap (0+1)=1:=rfl
theorem wr2:IntKind.i64.wrap (1+1)=2:=rfl
theorem call30 (s:List UInt8) (m:IM):cw (.f 30) [.str s] m=some (.bool (isFlB s),m):=by
 have d0:decide ((0:Int)<2)=true:=rfl
 have d1:decide ((1:Int)<2)=true:=rfl
 have d2:decide ((2:Int)<2)=false:=rfl
 apply F30_call
 unfold F30
 by_cases h1:s=[102,51,50]
 ·subst h1
  rw[L30_0_eq]
  simp only[B30_0,go_sem,d0,evC_of flt0,beq_self_eq_true,if_true]
  rfl
 ·have e1:(([102,51,50]:List UInt8)==s)=false:=by simpa using fun e=>h1 e.symm
  have f1:L30_0 s [102,51,50] 32 [102,54,52] 64 0 m=L30_0 s [102,51,50] 32 [102,54,52] 64 1 m:=by
   rw[L30_0_eq]
   simp only[B30_0,go_sem,d0,evC_of flt0,e1,if_true,Bool.false_eq_true,if_false,wr1]
   rfl
  rw[f1,L30_0_eq]
  by_cases h2:s=[102,54,52]
  ·subst h2
   simp only[B30_0,go_sem,d1,evC_of flt1,beq_self_eq_true,if_true]
   rfl
  ·have e2:(([102,54,52]:List UInt8)==s)=false:=by simpa using fun e=>h2 e.symm
   have f2:nxt f30_0 (B30_0 s [102,51,50] 32 [102,54,52] 64 1 m)=L30_0 s [102,51,50] 32 [102,54,52] 64 2 m:=by
    simp only[B30_0,go_sem,d1,evC_of flt1,e2,if_true,Bool.false_eq_true,if_false,wr2]
    rfl
   have hf:isFlB s=false:=by simp[isFlB,h1,h2]
   rw[f2,L30_0_eq,hf]
   simp only[B30_0,go_sem,d2,Bool.false_eq_true,if_false]
   rfl
def wid0:List (IV×IV):=[(.str [112,116,114],.int .i64 64),(.str [102,51,50],.int .i64 32),(.str [102,54,52],.int .i64 64)]
theorem wid_find (s:List UInt8):findI .str (.str s) wid0=some (if s=[112,116,114] then some (.int .i64 64) else if s=[102,51,50] then some (.int .i64 32) else if s=[102,54,52] then some (.int .i64 64) else none):=by
 by_cases h1:s=[112,116,114]
 ·subst h1;rfl
 ·by_cases h2:s=[102,51,50]
  ·subst h2;rfl
  ·by_cases h3:s=[102,54,52]
   ·subst h3;rfl
   ·have q1:(s==[112,116,114])=false:=by simpa using h1
    have q2:(s==[102,51,50])=false:=by simpa using h2
    have q3:(s==[102,54,52])=false:=by simpa using h3
    simp only[findI,wid0,keyEq]
    rw[if_neg h1,if_neg h2,if_neg h3,q1,q2,q3]
theorem call9 (s:List UInt8) (m:IM):cw (.f 9) [.str s] m=some (.tup [.int .i64 (widR s).1,.int .i64 (widR s).2],m):=by
 have d0:decide ((0:Int)<2)=true:=rfl
 have d1:decide ((1:Int)<2)=true:=rfl
 have d2:decide ((2:Int)<2)=false:=rfl
 have hg:∀es,(pushM m (.map es)).get m.size=.map es:=fun es=>get_pushM _ _
 have hs:∀es es',setM (pushM m (.map es)) m.size (.map es')=pushM m (.map es'):=fun _ _=>setM_pushM _ _ _
 have hset:∀es (v:IV),v.refsDeep=some 0→settle m (pushM m (.map es)) v=some (v,m):=fun es v hv=>settle_push hv
 have u0:=fun (R:Type) (K:IM→Option R)=>mupC_of (R:=R) (d:=.str) (k:=.str [112,116,114]) (v:=.int .i64 64) (hg []) (es':=[(.str [112,116,114],.int .i64 64)]) rfl rfl K
 have u1:=fun (R:Type) (K:IM→Option R)=>mupC_of (R:=R) (d:=.str) (k:=.str [102,51,50]) (v:=.int .i64 32) (hg [(.str [112,116,114],.int .i64 64)]) (es':=[(.str [112,116,114],.int .i64 64),(.str [102,51,50],.int .i64 32)]) rfl rfl K
 have u2:=fun (R:Type) (K:IM→Option R)=>mupC_of (R:=R) (d:=.str) (k:=.str [102,54,52]) (v:=.int .i64 64) (hg [(.str [112,116,114],.int .i64 64),(.str [102,51,50],.int .i64 32)]) (es':=wid0) rfl rfl K
 have kp:∀(R:Type) (X:Option R),keepC (.map m.size) [] X=X:=fun _ _=>rfl
 have l0:L9_0 s (.map m.size) [102,51,50] 32 [102,54,52] 64 0 (pushM m (.map [(.str [112,116,114],.int .i64 64)]))=some (.exit 0,[.str s,.map m.size],[],pushM m (.map wid0)):=by
  have f1:L9_0 s (.map m.size) [102,51,50] 32 [102,54,52] 64 0 (pushM m (.map [(.str [112,116,114],.int .i64 64)]))=L9_0 s (.map m.size) [102,51,50] 32 [102,54,52] 64 1 (pushM m (.map [(.str [112,116,114],.int .i64 64),(.str [102,51,50],.int .i64 32)])):=by
   rw[L9_0_eq]
   simp only[B9_0,go_sem,d0,evC_of flt0,u1,hs,kp,if_true,wr1]
   rfl
  have f2:L9_0 s (.map m.size) [102,51,50] 32 [102,54,52] 64 1 (pushM m (.map [(.str [112,116,114],.int .i64 64),(.str [102,51,50],.int .i64 32)]))=L9_0 s (.map m.size) [102,51,50] 32 [102,54,52] 64 2 (pushM m (.map wid0)):=by
   rw[L9_0_eq]
   simp only[B9_0,go_sem,d1,evC_of flt1,u2,hs,kp,if_true,wr2]
   rfl
  rw[f1,f2,L9_0_eq]
  simp only[B9_0,go_sem,d2,Bool.false_eq_true,if_false]
 apply F9_call
 by_cases hk:s=[112,116,114]∨s=[102,51,50]∨s=[102,54,52]
 ·have hf:findI .str (.str s) wid0=some (some (.int .i64 (widR s).1)):=by
   rw[wid_find]
   rcases hk with rfl | rfl | rfl<;>rfl
  have h0:(widR s).2=0:=by rcases hk with rfl | rfl | rfl<;>rfl
  have l1:=fun (R:Type) (K:IV→Option R)=>lkpC_some (R:=R) (d:=.str) (z:=.int .i64 0) (k:=.str s) (hg wid0) hf K
  simp only[F9,go_sem,u0,hs,l0,l1,h0,if_true]
  exact hset _ _ rfl
 ·have h1:¬s=[112,116,114]:=fun e=>hk (.inl e)
  have h2:¬s=[102,51,50]:=fun e=>hk (.inr (.inl e))
  have h3:¬s=[102,54,52]:=fun e=>hk (.inr (.inr e))
  have hf:findI .str (.str s) wid0=some none:=by
   rw[wid_find,if_neg h1,if_neg h2,if_neg h3]
  have l1:=fun (R:Type) (K:IV→Option R)=>lkpC_none (R:=R) (d:=.str) (z:=.int .i64 0) (k:=.str s) (hg wid0) hf K
  have c28:=fun (R:Type) (K:IV→IM→Option R)=>callC_cw (call28 s (pushM m (.map wid0))) (by simp[go_sem]) K
  have c35:=fun (R:Type) (K:IV→IM→Option R)=>callC_cw (call35 (!tyOk s) 12 (pushM m (.map wid0))) (by simp[go_sem]) K
  have hw:widR s=((tyR s).2.1,if (!tyOk s)=true then 12 else 0):=by
   unfold widR
   rw[if_neg h1,if_neg h2,if_neg h3]
   by_cases q:(tyR s).1=0
   ·simp[tyOk,q]
   ·have:(tyR s).2.1=0:=by rw[tyR_bad s q]
    simp[tyOk,q,this]
  simp only[F9,go_sem,u0,hs,l0,l1,c28,c35,hw,Bool.false_eq_true,if_false]
  exact hset _ _ rfl
theorem widR_ok (s:List UInt8):((widR s).2=0↔(tyOk s=true∨isFlB s=true∨s=[112,116,114])):=by
 unfold widR
 by_cases h1:s=[112,116,114]
 ·rw[if_pos h1];simp[h1]
 ·by_cases h2:s=[102,51,50]
  ·rw[if_neg h1,if_pos h2];simp[isFlB,h2]
  ·by_cases h3:s=[102,54,52]
   ·rw[if_neg h1,if_neg h2,if_pos h3];simp[isFlB,h3]
   ·rw[if_neg h1,if_neg h2,if_neg h3]
    by_cases h4:(tyR s).1=0
    ·simp[tyOk,h4]
    ·simp[tyOk,h4,h1,isFlB,h2,h3]
theorem idxAt {s:List UInt8}{i:Nat}(h:i<s.length):POp.ev .idxStr [.str s,.int .i64 (i:Int)]=some (.int .u8 s[i].toNat):=by
 have c2:(0:Int)≤(i:Int):=by omega
 simp[POp.ev,c2,h]
theorem digB_iff (b:UInt8):digB b=(decide ((48:Int)≤b.toNat)&&decide ((b.toNat:Int)≤57)):=by
 have h1:Nat.ble 48 b.toNat=decide ((48:Int)≤b.toNat):=by
  by_cases q:48≤b.toNat
  ·rw[Nat.ble_eq_true_of_le q,decide_eq_true (by omega)]
  ·rw[Bool.eq_false_iff.2 fun e=>q (Nat.le_of_ble_eq_true e),decide_eq_false (by omega)]
 have h2:Nat.ble b.toNat 57=decide ((b.toNat:Int)≤57):=by
  by_cases q:b.toNat≤57
  ·rw[Nat.ble_eq_true_of_le q,decide_eq_true (by omega)]
  ·rw[Bool.eq_false_iff.2 fun e=>q (Nat.le_of_ble_eq_true e),decide_eq_false (by omega)]
 rw[digB,h1,h2]
theorem loop92 (s:List UInt8) (hl:s.length≤3) (m:IM):∀(j i n:Nat),s.length=i+j→n<10^i →
  L92_0 s n i m=some (if digsB (s.drop i)=true then (.exit 0,[.int .i64 ((atoB n (s.drop i)).getD 0:Nat)],[],m) else (.ret,[.int .i64 0,.bool false],[],m)):=by
 intro j
 induction j with
 |zero =>
  intro i n hk hn
  have e:s.drop i=[]:=List.drop_eq_nil_iff.2 (by omega)
  have c1:¬(i:Int)<(s.length:Int):=by omega
  rw[e,L92_0_eq]
  simp[B92_0,go_sem,c1,digsB,atoB]
 |succ j ih =>
  intro i n hk hn
  have hi:i<s.length:=by omega
  have c1:(i:Int)<(s.length:Int):=by omega
  have h159:=fun (R:Type) (K:IV→IM→Option R)=>callC_cw (call159 (s[i].toNat:Int) m) (by simp[go_sem]) K
  rw[List.drop_eq_getElem_cons hi,L92_0_eq]
  cases g:digB s[i] with
  |false =>
   have g':=g
   rw[digB_iff] at g'
   simp only[digsB,g,Bool.false_and,Bool.false_eq_true,if_false]
   simp only[B92_0,go_sem,c1,decide_true,if_true,evC_of (idxAt hi),h159,g',Bool.not_false]
  |true =>
   have g':=g
   rw[digB_iff] at g'
   have g2:=g'
   simp only[Bool.and_eq_true,decide_eq_true_eq] at g2
   have hp:10^i≤10^3:=Nat.pow_le_pow_right (by decide) (by omega)
   have e1:IntKind.u8.wrap ((s[i].toNat:Int)-48)=((s[i].toNat-48:Nat):Int):=by rw[w8 (by omega) (by omega)];omega
   have e2:IntKind.i64.wrap ((s[i].toNat-48:Nat):Int)=((s[i].toNat-48:Nat):Int):=w64 (by omega) (by omega)
   have e3:IntKind.i64.wrap (10*(n:Int))=10*(n:Int):=w64 (by omega) (by omega)
   have e4:IntKind.i64.wrap (10*(n:Int)+((s[i].toNat-48:Nat):Int))=((n*10+(s[i].toNat-48):Nat):Int):=by rw[w64 (by omega) (by omega)];omega
   have e5:IntKind.i64.wrap ((i:Int)+1)=((i+1:Nat):Int):=by rw[w64 (by omega) (by omega)];rfl
   have ha:atoB n (s[i]::s.drop (i+1))=atoB (n*10+(s[i].toNat-48)) (s.drop (i+1)):=by
    rw[atoB]
    have:(Nat.ble 48 s[i].toNat&&Nat.ble s[i].toNat 57)=true:=g
    rw[this]
   simp only[digsB,g,Bool.true_and,ha]
   rw[←ih (i+1) (n*10+(s[i].toNat-48)) (by omega) (by rw[Nat.pow_succ];omega)]
   simp only[B92_0,go_sem,c1,decide_true,if_true,evC_of (idxAt hi),h159,g',Bool.not_true,Bool.false_eq_true,if_false,e1,e2,e3,e4,e5]
   rfl
theorem call92 (s:List UInt8) (hl:s.length≤3) (m:IM):cw (.f 92) [.str s] m=some (.tup [.int .i64 (if isNumB s=true then (valB s:Int) else 0),.bool (isNumB s)],m):=by
 have hL:=loop92 s hl m s.length 0 0 (by omega) (by decide)
 rw[List.drop_zero] at hL
 have hL:L92_0 s 0 0 m=_:=hL
 apply F92_call
 have c15:¬(s.length:Int)>15:=by omega
 cases s with
 |nil=>simp[F92,C92_c0,go_sem,isNumB]
 |cons b r =>
  have e2:((b::r)==([]:List UInt8))=false:=rfl
  cases r with
  |nil =>
   have c1:¬(([b]:List UInt8).length:Int)>1:=by simp
   cases h:digsB [b] with
   |false =>
    rw[h] at hL
    simp only[Bool.false_eq_true,if_false] at hL
    have hn:isNumB [b]=false:=by simp[isNumB,h]
    simp only[F92,C92_c0,go_sem,e2,c15,c1,decide_false,Bool.false_eq_true,if_false,hL,hn,reduceCtorEq,if_true]
    exact settle_id rfl
   |true =>
    rw[h] at hL
    simp only[if_true] at hL
    have hn:isNumB [b]=true:=by
     by_cases q:b=48
     ·subst q;rfl
     ·simp[isNumB,h,q]
    simp only[F92,C92_c0,go_sem,e2,c15,c1,decide_false,Bool.false_eq_true,if_false,hL,hn,if_true]
    exact settle_id (v:=.tup [.int .i64 ((valB [b]:Nat):Int),.bool true]) rfl
  |cons b2 r =>
   have c1:((b::b2::r).length:Int)>1:=by simp only[List.length_cons];omega
   have e3:((b.toNat:Int)==48)=decide (b=48):=by
    by_cases q:b=48
    ·subst q;rfl
    ·have:(b.toNat:Int)≠48:=fun e=>q (UInt8.toNat_inj.1 (by show b.toNat=48;omega))
     simp[q,this]
   by_cases q:b=48
   ·subst q
    have hn:isNumB (48::b2::r)=false:=by simp[isNumB]
    have e4:(((48:UInt8).toNat:Int)==48)=true:=rfl
    simp only[F92,C92_c0,go_sem,e2,c15,c1,decide_false,decide_true,Bool.false_eq_true,if_false,if_true,evC_of idx0,e4,hn]
    exact settle_id rfl
   ·cases h:digsB (b::b2::r) with
    |false =>
     rw[h] at hL
     simp only[Bool.false_eq_true,if_false] at hL
     have hn:isNumB (b::b2::r)=false:=by simp[isNumB,h]
     simp only[F92,C92_c0,go_sem,e2,c15,c1,decide_false,decide_true,Bool.false_eq_true,if_false,if_true,evC_of idx0,e3,q,hL,hn,reduceCtorEq]
     exact settle_id rfl
    |true =>
     rw[h] at hL
     simp only[if_true] at hL
     have hn:isNumB (b::b2::r)=true:=by simp[isNumB,h,q]
     simp only[F92,C92_c0,go_sem,e2,c15,c1,decide_false,decide_true,Bool.false_eq_true,if_false,if_true,evC_of idx0,e3,q,hL,hn]
     exact settle_id (v:=.tup [.int .i64 ((valB (b::b2::r):Nat):Int),.bool true]) rfl
theorem call45 (b:Bool) (e:Int) (m:IM):cw (.f 45) [.bool b,.int .i64 e] m=some (.int .i64 (if b then e else 0),m):=by
 apply F45_call
 cases b<;>simp[F45,go_sem]
def prR:List UInt8→Bool×Int×Int
 |[]=>(false,0,6)
 |c::d=>if (c=117∨c=105)∧isNumB d=true∧d.length≤3 then (decide (c=105),(valB d:Int),if 64<valB d∨(valB d=0∧c=105) then 3 else 0) else (false,0,6)
theorem prR_err (s:List UInt8):(prR s).2.2=(tyR s).1:=by
 cases s with
 |nil=>rfl
 |cons c d =>
  by_cases h1:(c=117∨c=105)∧isNumB d=true∧d.length≤3
  ·by_cases h2:64<valB d∨valB d=0∧c=105
   ·simp only[tyR,prR];rw[if_pos h1,if_pos h1,if_pos h2,if_pos h2]
   ·simp only[tyR,prR];rw[if_pos h1,if_pos h1,if_neg h2,if_neg h2]
  ·simp only[tyR,prR];rw[if_neg h1,if_neg h1]
theorem prR_ok (s:List UInt8) (h:(tyR s).1=0):prR s=((tyR s).2.2,(tyR s).2.1,0):=by
 cases s with
 |nil=>cases h
 |cons c d =>
  by_cases h1:(c=117∨c=105)∧isNumB d=true∧d.length≤3
  ·by_cases h2:64<valB d∨valB d=0∧c=105
   ·simp only[tyR] at h;rw[if_pos h1,if_pos h2] at h;cases h
   ·simp only[tyR,prR];rw[if_pos h1,if_pos h1,if_neg h2,if_neg h2]
  ·simp only[tyR] at h;rw[if_neg h1] at h;cases h
theorem u8ne (b:UInt8) (n:Nat) (hn:n<256):((b.toNat:Int) != (n:Int))=decide (b≠UInt8.ofNat n):=by
 by_cases q:b=UInt8.ofNat n
 ·subst q
  have:(UInt8.ofNat n).toNat=n:=by simp;omega
  simp[this]
 ·have:(b.toNat:Int)≠(n:Int):=fun e=>q (UInt8.toNat_inj.1 (by simp;omega))
  simp[q,this]
theorem c58 (c:UInt8) (d:List UInt8) (m:IM):C58_c0 (c::d) m=some (.normal,[.str (c::d),.bool (!(decide (c=117∨c=105)&&decide (d.length≤3)))],[],m):=by
 have e2:((c::d)==([]:List UInt8))=false:=rfl
 have e3:((c.toNat:Int) != 117)=decide (c≠117):=u8ne c 117 (by decide)
 have e4:((c.toNat:Int) != 105)=decide (c≠105):=u8ne c 105 (by decide)
 have e5:decide (((c::d).length:Int)>4)=!decide (d.length≤3):=by
  rw[List.length_cons]
  by_cases q:d.length≤3
  ·rw[decide_eq_true q,decide_eq_false (by omega)];rfl
  ·rw[decide_eq_false q,decide_eq_true (by omega)];rfl
 simp only[C58_c0,go_sem,e2,evC_of idx0,e3,e4,e5,Bool.false_eq_true,if_false]
 by_cases q1:c=117
 ·subst q1;simp
 ·by_cases q2:c=105
  ·subst q2;simp
  ·simp[q1,q2]
theorem call58 (s:List UInt8) (m:IM):cw (.f 58) [.str s] m=some (.tup [.bool (prR s).1,.int .i64 (prR s).2.1,.int .i64 (prR s).2.2],m):=by
 have h45:=fun (b:Bool) (R:Type) (K:IV→IM→Option R)=>callC_cw (call45 b 3 m) (by simp[go_sem]) K
 apply F58_call
 cases s with
 |nil =>
  simp only[F58,C58_c0,go_sem,beq_self_eq_true,if_true]
  exact settle_id rfl
 |cons c d =>
  unfold F58
  rw[c58]
  by_cases h1:(c=117∨c=105)∧d.length≤3
  ·have h92:=fun (R:Type) (K:IV→IM→Option R)=>callC_cw (call92 d h1.2 m) (by simp[go_sem]) K
   have b1:(decide (c=117∨c=105)&&decide (d.length≤3))=true:=by rw[decide_eq_true h1.1,decide_eq_true h1.2];rfl
   cases h2:isNumB d with
   |false =>
    have hp:prR (c::d)=(false,0,6):=by
     simp only[prR];rw[if_neg (fun e=>by rw[h2] at e;cases e.2.1)]
    rw[b1,hp]
    simp only[go_sem,Bool.not_true,Bool.false_eq_true,if_false,evC_of (slc2 c d),h92,h2,Bool.not_false,if_true]
    exact settle_id rfl
   |true =>
    have e4:((c.toNat:Int)==105)=decide (c=105):=by
     have:=u8ne c 105 (by decide)
     simp only[bne,decide_not] at this
     simpa using this
    have hp:prR (c::d)=(decide (c=105),(valB d:Int),if 64<valB d∨(valB d=0∧c=105) then 3 else 0):=by
     simp only[prR];rw[if_pos ⟨h1.1,h2,h1.2⟩]
    have hc:C58_c1 (valB d) (decide (c=105)) m=some (.normal,[.bool (decide (c=105)),.int .i64 (valB d),.int .i64 (if 64<valB d∨(valB d=0∧c=105) then 3 else 0)],[],m):=by
     simp only[C58_c1,go_sem,h45]
     by_cases g1:64<valB d
     ·have:(valB d:Int)>64:=by omega
      simp[g1,this]
     ·have:¬(valB d:Int)>64:=by omega
      by_cases g2:c=105
      ·by_cases g3:valB d=0
       ·simp[g2,g3]
       ·have g4:((valB d:Int)==0)=false:=by simpa using g3
        simp[g1,this,g2,g3,g4]
      ·simp[g1,this,g2]
    rw[b1,hp]
    simp only[go_sem,Bool.not_true,Bool.false_eq_true,if_false,evC_of (slc2 c d),h92,h2,if_true,evC_of idx0,e4,hc]
    exact settle_id rfl
  ·have b1:(decide (c=117∨c=105)&&decide (d.length≤3))=false:=by
    rw[Bool.and_eq_false_iff,decide_eq_false_iff_not,decide_eq_false_iff_not]
    by_cases q:c=117∨c=105
    ·exact .inr fun e=>h1 ⟨q,e⟩
    ·exact .inl q
   have hp:prR (c::d)=(false,0,6):=by
    simp only[prR];rw[if_neg (fun e=>h1 ⟨e.1,e.2.2⟩)]
   rw[b1,hp]
   simp only[go_sem,Bool.not_false,if_true]
   exact settle_id rfl
theorem call36 (s:List UInt8) (m:IM):cw (.f 36) [.str s] m=some (.tup [.int .i64 (tyR s).2.1,.bool (tyR s).2.2,.int .i64 (tyR s).1],m):=by
 have h58:=fun (R:Type) (K:IV→IM→Option R)=>callC_cw (call58 s m) (by simp[go_sem]) K
 apply F36_call
 by_cases q:(tyR s).1=0
 ·have e1:(((prR s).2.2) != 0)=false:=by rw[prR_err,q];rfl
  simp only[F36,go_sem,h58,e1,Bool.false_eq_true,if_false]
  rw[prR_ok s q,q]
  exact settle_id rfl
 ·have e1:(((prR s).2.2) != 0)=true:=by rw[prR_err];simpa using q
  simp only[F36,go_sem,h58,e1,if_true]
  rw[prR_err,tyR_bad s q]
  exact settle_id rfl
theorem call50 (s:List UInt8) (m:IM):cw (.f 50) [.str s] m=some (.int .i64 (tyR s).1,m):=by
 have h58:=fun (R:Type) (K:IV→IM→Option R)=>callC_cw (call58 s m) (by simp[go_sem]) K
 apply F50_call
 simp[F50,go_sem,h58,prR_err]
theorem call31 (s:List UInt8) (m:IM):cw (.f 31) [.str s] m=some (.bool (tyOk s),m):=by
 have h:=fun (R:Type) (K:IV→IM→Option R)=>callC_cw (call50 s m) (by simp[go_sem]) K
 have e:((tyR s).1==0)=tyOk s:=by
  simp only[tyOk]
  by_cases q:(tyR s).1=0<;>simp[q]
 apply F31_call
 simp[F31,go_sem,h,e]
theorem call32 (s:List UInt8) (m:IM):cw (.f 32) [.str s] m=some (.bool (isFlB s),m):=by
 apply F32_call
 by_cases q:s=[102,51,50]
 ·subst q;simp[F32,C32_c0,go_sem,isFlB]
 ·by_cases q2:s=[102,54,52]
  ·subst q2;simp[F32,C32_c0,go_sem,isFlB]
  ·simp[F32,C32_c0,go_sem,isFlB,q,q2]
theorem call10 (s:List UInt8) (m:IM):cw (.f 10) [.str s] m=some (.tup [.int .i64 (widR s).1,.int .i64 (widR s).2],m):=by
 have h:=fun (R:Type) (K:IV→IM→Option R)=>callC_cw (call36 s m) (by simp[go_sem]) K
 apply F10_call
 by_cases q:s=[102,51,50]
 ·subst q
  simp only[F10,go_sem,beq_self_eq_true,if_true]
  exact settle_id rfl
 ·have e1:(s==[102,51,50])=false:=by simpa using q
  by_cases q2:s=[102,54,52]
  ·subst q2
   simp only[F10,C10_c0,go_sem,e1,beq_self_eq_true,if_true,Bool.false_eq_true,if_false]
   exact settle_id rfl
  ·have e2:(s==[102,54,52])=false:=by simpa using q2
   by_cases q3:s=[112,116,114]
   ·subst q3
    simp only[F10,C10_c0,go_sem,e1,e2,beq_self_eq_true,if_true,Bool.false_eq_true,if_false]
    exact settle_id rfl
   ·have e3:(s==[112,116,114])=false:=by simpa using q3
    unfold widR
    rw[if_neg q3,if_neg q,if_neg q2]
    by_cases g:(tyR s).1=0
    ·have g1:((tyR s).1 != 0)=false:=by rw[g];rfl
     simp only[F10,C10_c0,go_sem,e1,e2,e3,h,g1,if_true,Bool.false_eq_true,if_false,if_pos g]
     exact settle_id rfl
    ·have g1:((tyR s).1 != 0)=true:=by simpa using g
     simp only[F10,C10_c0,go_sem,e1,e2,e3,h,g1,if_true,Bool.false_eq_true,if_false,if_neg g]
     exact settle_id rfl
abbrev m0:IM:=⟨[],0⟩
def rowsQ:IV:=match (sem tab prims 400).call (.f 63) [] ⟨[],0⟩ with
 |some (v,⟨[],0⟩)=>v
 |_=>.undef
abbrev RW:=Int×Int×IV×IV
def blkL:List IV→Option (List RW)
 |[]=>some []
 |.int .i64 a :: .int .i64 b::k::d::r=>(blkL r).map ((a,b,k,d) :: ·)
 |_=>none
def flatB:List RW→List IV
 |[]=>[]
 |(a,b,k,d)::r=>.int .i64 a :: .int .i64 b::k::d::flatB r
theorem blkL_flat:∀(l:List IV) {rs:List RW},blkL l=some rs→l=flatB rs
 |[],rs,h=>by
  simp only[blkL,Option.some.injEq] at h
  subst h;rfl
 |.int .i64 a :: .int .i64 b::k::d::r,rs,h=>by
  simp only[blkL,Option.map_eq_some_iff] at h
  obtain⟨t,h1,rfl⟩:=h
  rw[flatB,←blkL_flat r h1]
 |[_],_,h=>by simp[blkL] at h
 |[_,_],_,h=>by simp[blkL] at h
 |[_,_,_],_,h=>by simp[blkL] at h
 |a::b::k::d::r,rs,h=>by
  unfold blkL at h
  split at h
  ·rename_i e;cases e
  ·rename_i a' b' k' d' r' e
   cases e
   obtain⟨t,h1,rfl⟩:=Option.map_eq_some_iff.1 h
   rw[flatB,←blkL_flat r h1]
  ·cases h
def rsQ:List RW:=match rowsQ with
 |.sl l _=>(blkL l).getD []
 |_=>[]
def kdI:IV→Option (List Int)
 |.nilSlice=>some []
 |.sl l n=>match Nat.beq l.length n with
  |true=>l.mapM fun | .int .i64 k=>some k | _=>none
  |false=>none
 |_=>none
def tabL:List (Int×Int×List Int) :=
 [(6,2,[0]),(7,2,[0]),(8,2,[0]),(9,2,[]),(10,2,[]),(11,2,[]),(12,2,[]),(13,2,[]),(14,2,[]),(15,3,[]),(16,3,[]),(17,3,[]),(18,2,[0,3]),(19,2,[0,3]),(20,2,[0,3,4]),(21,2,[3]),(22,2,[3]),(23,2,[1]),(24,2,[1,2]),(25,2,[1]),(26,2,[]),(27,2,[]),(28,2,[]),(29,1,[]),(30,1,[0]),(31,1,[]),(32,2,[]),(33,2,[]),(34,3,[]),(35,3,[]),(36,3,[]),(37,3,[]),(46,1,[]),(47,1,[]),(48,1,[]),(49,1,[])]
def rowOk (r:RW) (t:Int×Int×List Int):Bool:=decide (r.1=t.1)&&(decide (r.2.1=t.2.1)&&(decide (kdI r.2.2.1=some t.2.2)&&(decide (r.2.2.1.refs=some 0)&&decide (r.2.2.2.refs=some 0))))
def rowsOk:List RW→List (Int×Int×List Int)→Bool
 |[],[]=>true
 |r::rs,t::ts=>rowOk r t&&rowsOk rs ts
 |_,_=>false
def isRun:Option (IV×IM)→Bool
 |some (_,⟨[],0⟩)=>true
 |_=>false
def chkQ:Bool:=match rowsQ with
 |.sl l n=>Nat.beq n 36&&((blkL l).isSome&&rowsOk rsQ tabL)
 |_=>false
theorem rows_run:isRun ((sem tab prims 400).call (.f 63) [] ⟨[],0⟩)=true:=by kernel_rfl
theorem rows_chk:chkQ=true:=by kernel_rfl
theorem rows63:cw (.f 63) [] m0=some (rowsQ,m0):=by
 have h:=rows_run
 refine callW_iff.2 ⟨400,?_⟩
 unfold rowsQ
 cases hq:(sem tab prims 400).call (.f 63) [] ⟨[],0⟩ with
 |none=>rw[hq] at h;cases h
 |some p =>
  rw[hq] at h
  unfold isRun at h
  split at h
  ·rename_i e;cases e;rfl
  ·cases h
theorem rows_is:rowsQ=.sl (flatB rsQ) 36∧rowsOk rsQ tabL=true:=by
 have h:=rows_chk
 unfold chkQ at h
 split at h
 ·rename_i l n e
  simp only[Bool.and_eq_true] at h
  obtain⟨h1,h2,h3⟩:=h
  obtain⟨rs,h4⟩:=Option.isSome_iff_exists.1 h2
  have hr:rsQ=rs:=by unfold rsQ;rw[e];simp only[h4,Option.getD_some]
  refine⟨?_,h3⟩
  rw[hr,←blkL_flat l h4,←Nat.eq_of_beq_eq_true h1]
  exact e
 ·cases h
def fnd (rs:List RW) (op:Int):Option RW:=rs.find? fun r=>decide (r.1=op)
def fiN:List RW→Int→Nat→Option Nat
 |[],_,_=>none
 |r::rs,op,i=>if r.1=op then some i else fiN rs op (i+1)
theorem fiN_spec (op:Int):∀(rs:List RW) (i:Nat),(fiN rs op i=none∧fnd rs op=none)∨∃q r,fiN rs op i=some (i+q)∧rs[q]?=some r∧fnd rs op=some r
 |[],i=>.inl ⟨rfl,rfl⟩
 |r::rs,i=>by
  by_cases h:r.1=op
  ·exact .inr ⟨0,r,by rw[fiN,if_pos h];rfl,rfl,by simp[fnd,h]⟩
  ·rcases fiN_spec op rs (i+1) with ⟨h1,h2⟩ | ⟨q,r',h1,h2,h3⟩
   ·exact .inl ⟨by rw[fiN,if_neg h];exact h1,by simpa[fnd,h] using h2⟩
   ·refine .inr ⟨q+1,r',?_,by simpa using h2,by simpa[fnd,h] using h3⟩
    rw[fiN,if_neg h,h1]
    congr 1
    omega
theorem flatB_len:∀rs:List RW,(flatB rs).length=4*rs.length
 |[]=>rfl
 |(a,b,k,d)::r=>by simp only[flatB,List.length_cons,flatB_len r];omega
def rowC (r:RW):List IV:=[.int .i64 r.1,.int .i64 r.2.1,r.2.2.1,r.2.2.2]
theorem flatB_drop:∀(rs:List RW) (i:Nat),(flatB rs).drop (i*4)=flatB (rs.drop i)
 |[],i=>by simp[flatB]
 |r::rs,0=>by simp
 |(a,b,k,d)::rs,i+1=>by
  rw[List.drop_succ_cons,←flatB_drop rs i,show (i+1)*4=i*4+4 by omega,flatB]
  simp[List.drop_succ_cons]
theorem flatB_cut {rs:List RW}{i:Nat}{r:RW}(h:rs[i]?=some r):cut (flatB rs) (i*4) 4=some (rowC r):=by
 obtain⟨hi,e⟩:=List.getElem?_eq_some_iff.1 h
 have hl:=flatB_len rs
 have:rs.drop i=r::rs.drop (i+1):=by rw[List.drop_eq_getElem_cons hi,e]
 unfold cut
 rw[if_pos (by omega),flatB_drop,this]
 obtain⟨a,b,k,d⟩:=r
 simp[flatB,rowC]
theorem refs_pI (r:List IV) (o:Nat):(IV.pI r o).refs=some 0:=id rfl
theorem cells_pI (r:List IV) (o:Nat):(IV.pI r o).cells=[.pI r o]:=id rfl
theorem call65 (r:RW) (op:Int) (m:IM) (hk:r.2.2.1.refs=some 0) (hd:r.2.2.2.refs=some 0):cw (.f 65) [.agg (rowC r),.pI [.int .i64 op] 0] m=some (.bool (decide (r.1=op)),m):=by
 have k0:=fun (R:Type) (K:IV→Option R)=>cutC_false (cs:=[.int .i64 op]) (off:=0) (n:=1) (v:=.int .i64 op) rfl K
 have e:(r.1==op)=decide (r.1=op):=rfl
 apply F65_call
 simp only[F65,go_sem,refC_of hk,refC_of hd,k0,e]
theorem idxR (l:List IV) (n i:Nat) (h:i<n):POp.ev (.indexS 4) [.sl l n,.int .i64 (i:Int)]=some (.pI l (i*4)):=by
 have c1:(i:Int)<(n:Int):=by omega
 have c2:(0:Int)≤(i:Int):=by omega
 simp[POp.ev,c1,c2]
theorem loop64 (rs:List RW) (hn:rs.length≤1000) (hR:∀r∈rs,r.2.2.1.refs=some 0∧r.2.2.2.refs=some 0) (op:Int) (m:IM):∀(j i:Nat),rs.length=i+j →
  L64_0 (.sl (flatB rs) rs.length) (.func 65 [] [.pI [.int .i64 op] 0]) rs.length i m=some (match fiN (rs.drop i) op i with
   |some p=>(.ret,[.int .i64 (p:Int)],[],m)
   |none=>(.exit 0,[],[],m)):=by
 intro j
 induction j with
 |zero =>
  intro i hk
  have e:rs.drop i=[]:=List.drop_eq_nil_iff.2 (by omega)
  have c1:¬(i:Int)<(rs.length:Int):=by omega
  rw[e,L64_0_eq]
  simp[B64_0,go_sem,c1,fiN]
 |succ j ih =>
  intro i hk
  have hi:i<rs.length:=by omega
  have c1:(i:Int)<(rs.length:Int):=by omega
  obtain⟨hk1,hd1⟩:=hR rs[i] (List.getElem_mem hi)
  have hcut:=flatB_cut (rs:=rs) (i:=i) (r:=rs[i]) (List.getElem?_eq_getElem hi)
  have h65:=call65 rs[i] op m hk1 hd1
  have hc:=fun (R:Type) (K:IV→IM→Option R)=>callC_cw h65 (by simp[go_sem,rowC,hk1,hd1,refs_pI,cells_pI]) K
  have e2:IntKind.i64.wrap ((i:Int)+1)=((i+1:Nat):Int):=by rw[w64 (by omega) (by omega)];rfl
  have nl:∀(R:Type) (X:Option R),notL (.sl (flatB rs) rs.length) X=X:=fun _ _=>rfl
  have kf:∀(R:Type) (X:Option R),keepC (.func 65 [] [.pI [.int .i64 op] 0]) [] X=X:=fun _ _=>rfl
  have cv:∀(R:Type) (vs:List IV) (K:IV→IM→Option R),callVC cw (.func 65 [] [.pI [.int .i64 op] 0]) vs [] m K=callC cw (.f 65) (vs++[.pI [.int .i64 op] 0]) [] m K:=fun _ _ _=>rfl
  rw[List.drop_eq_getElem_cons hi,L64_0_eq]
  have ih':=ih (i+1) (by omega)
  generalize rs[i]=r at *
  obtain⟨a,b,k,d⟩:=r
  simp only[rowC] at hcut hc
  rw[fiN]
  by_cases g:a=op
  ·rw[if_pos g]
   have g':decide (a=op)=true:=decide_eq_true g
   simp only[B64_0,go_sem,c1,decide_true,if_true,evC_of (idxR _ _ _ hi),cutC_true hcut,cv,List.singleton_append,hc,g']
  ·rw[if_neg g,←ih']
   simp only[B64_0,go_sem,c1,decide_true,if_true,evC_of (idxR _ _ _ hi),cutC_true hcut,cv,List.singleton_append,hc,g,decide_false,Bool.false_eq_true,if_false,nl,kf,e2]
   rfl
theorem rowsOk_refs:∀{rs:List RW}{ts:List (Int×Int×List Int)},rowsOk rs ts=true→∀r∈rs,r.2.2.1.refs=some 0∧r.2.2.2.refs=some 0
 |[],[],_,r,h=>by cases h
 |r::rs,t::ts,h,x,hx=>by
  simp only[rowsOk,rowOk,Bool.and_eq_true,decide_eq_true_eq] at h
  rcases List.mem_cons.1 hx with rfl | hx
  ·exact h.1.2.2.2
  ·exact rowsOk_refs h.2 x hx
 |[],_::_,h,_,_=>by cases h
 |_::_,[],h,_,_=>by cases h
theorem rowsOk_len:∀{rs:List RW}{ts:List (Int×Int×List Int)},rowsOk rs ts=true→rs.length=ts.length
 |[],[],_=>rfl
 |r::rs,t::ts,h=>by
  simp only[rowsOk,Bool.and_eq_true] at h
  rw[List.length_cons,List.length_cons,rowsOk_len h.2]
 |[],_::_,h=>by cases h
 |_::_,[],h=>by cases h
def tfd (ts:List (Int×Int×List Int)) (op:Int):Option (Int×Int×List Int):=ts.find? fun t=>decide (t.1=op)
theorem rowsOk_fnd (op:Int):∀{rs:List RW}{ts:List (Int×Int×List Int)},rowsOk rs ts=true→(fnd rs op=none∧tfd ts op=none)∨∃r t,fnd rs op=some r∧tfd ts op=some t∧rowOk r t=true
 |[],[],_=>.inl ⟨rfl,rfl⟩
 |r::rs,t::ts,h=>by
  simp only[rowsOk,Bool.and_eq_true] at h
  have h1:=h.1
  simp only[rowOk,Bool.and_eq_true,decide_eq_true_eq] at h1
  by_cases g:r.1=op
  ·exact .inr ⟨r,t,by simp[fnd,g],by simp[tfd,←h1.1,g],h.1⟩
  ·have g2:¬t.1=op:=by rw[←h1.1];exact g
   rcases rowsOk_fnd op h.2 with ⟨q1,q2⟩ | ⟨r',t',q1,q2,q3⟩
   ·exact .inl ⟨by simpa[fnd,g] using q1,by simpa[tfd,g2] using q2⟩
   ·exact .inr ⟨r',t',by simpa[fnd,g] using q1,by simpa[tfd,g2] using q2,q3⟩
 |[],_::_,h=>by cases h
 |_::_,[],h=>by cases h
theorem call64 (op:Int):cw (.f 64) [rowsQ,.func 65 [] [.pI [.int .i64 op] 0]] m0=some (.int .i64 (match fiN rsQ op 0 with | some p=>(p:Int) | none=>-1),m0):=by
 obtain⟨e,hok⟩:=rows_is
 have hl:rsQ.length=36:=rowsOk_len hok
 have hL:=loop64 rsQ (by omega) (rowsOk_refs hok) op m0 36 0 (by omega)
 rw[hl,List.drop_zero] at hL
 have hlen:POp.ev .lenSlice [.sl (flatB rsQ) 36]=some (.int .i64 ((36:Nat):Int)):=rfl
 have nl:∀(R:Type) (X:Option R),notL (.sl (flatB rsQ) 36) X=X:=fun _ _=>rfl
 have kf:∀(R:Type) (X:Option R),keepC (.func 65 [] [.pI [.int .i64 op] 0]) [] X=X:=fun _ _=>rfl
 rw[e]
 apply F64_call
 unfold F64
 rw[evC_of hlen,asI_mk,nl,kf,show (0:Int)=((0:Nat):Int) from rfl,hL]
 cases fiN rsQ op 0 with
 |none=>simp[go_sem]
 |some p=>simp[go_sem]
theorem call46 (op:Int):cw (.f 46) [.int .i64 op] m0=some (match fnd rsQ op with
  |some r=>.tup [.agg (rowC r),.bool true]
  |none=>.tup [.agg [.int .i64 0,.int .i64 0,.nilSlice,.nilFunc],.bool false],m0):=by
 obtain⟨e,hok⟩:=rows_is
 have hl:rsQ.length=36:=rowsOk_len hok
 have h63:=fun (R:Type) (K:IV→IM→Option R)=>callC_cw rows63 (by rfl) K
 have h64:=fun (R:Type) (K:IV→IM→Option R)=>callC_cw (call64 op) (by rw[e];rfl) K
 apply F46_call
 unfold F46
 rw[h63,h64]
 rcases fiN_spec op rsQ 0 with ⟨h1,h2⟩ | ⟨q,r,h1,h2,h3⟩
 ·rw[h1,h2]
  simp only[go_sem]
  rfl
 ·obtain⟨hq,e3⟩:=List.getElem?_eq_some_iff.1 h2
  obtain⟨hk,hd⟩:=rowsOk_refs hok r (e3▸List.getElem_mem hq)
  have hcut:=flatB_cut h2
  have c1:¬((0+q:Nat):Int)<0:=by omega
  have hix:=idxR (flatB rsQ) 36 (0+q) (by omega)
  have hcut':cut (flatB rsQ) ((0+q)*4) 4=some (rowC r):=by rw[Nat.zero_add];exact hcut
  rw[h1,h3,e]
  obtain⟨a,b,k,d⟩:=r
  simp only[rowC] at hcut' ⊢
  simp only at hk hd
  simp only[go_sem,c1,decide_false,Bool.false_eq_true,if_false,evC_of hix,cutC_true hcut',refC_of hk,refC_of hd]
  refine settle_id ?_
  have hr:refsAll [.int .i64 a,.int .i64 b,k,d]=some 0:=by simp[rA_cons,rA_nil,hk,hd,refs_int]
  simp only[IV.refsDeep,IV.refsDeep.go,hr]
  rfl
def fmP (op:Int):Int:=if 38≤op∧op≤45 then 4 else ((tfd tabL op).map (·.2.1)).getD 0
def fmR (op:Int):Int :=
 if op=29∨op=30∨op=31∨(46≤op∧op≤49) then 1 else if (15≤op∧op≤17)∨(34≤op∧op≤37) then 3 else if 6≤op∧op≤33 then 2 else if 38≤op∧op≤45 then 4 else 0
theorem tfd_out {op:Int}(h:op<6∨49<op):tfd tabL op=none:=by
 unfold tfd
 rw[List.find?_eq_none]
 intro t ht
 have hall:(tabL.all fun t=>decide (6≤t.1)&&decide (t.1≤49))=true:=by decide
 have:=List.all_eq_true.1 hall t ht
 simp only[Bool.and_eq_true,decide_eq_true_eq] at this
 simp only[decide_eq_true_eq]
 omega
theorem op_cases {p:Int→Prop}(f:Nat→Bool) (hf:(List.range 50).all f=true) (hp:∀k:Nat,f k=true→p (k:Int)) (ho:∀op:Int,op<0∨49<op→p op) (op:Int):p op:=by
 by_cases h:0≤op∧op≤49
 ·obtain⟨k,rfl⟩:=Int.eq_ofNat_of_zero_le h.1
  exact hp k (List.all_eq_true.1 hf k (List.mem_range.2 (by omega)))
 ·exact ho op (by omega)
theorem fm_eq (op:Int):fmP op=fmR op:=by
 refine op_cases (p:=fun op=>fmP op=fmR op) (fun k=>decide (fmP k=fmR k)) (by decide +kernel) (fun k h=>of_decide_eq_true h) (fun op h=>?_) op
 unfold fmP fmR
 rw[tfd_out (by omega),if_neg (by omega),if_neg (by omega),if_neg (by omega),if_neg (by omega),if_neg (by omega)]
 rfl
theorem call39 (op:Int):cw (.f 39) [.int .i64 op] m0=some (.int .i64 (fmP op),m0):=by
 obtain⟨e,hok⟩:=rows_is
 have h46:=call46 op
 apply F39_call
 unfold F39 fmP
 by_cases h:38≤op∧op≤45
 ·rw[if_pos h]
  have c1:op≥38:=h.1
  simp only[C39_c0,go_sem,c1,h.2,decide_true,if_true]
 ·rw[if_neg h]
  have hc:C39_c0 op m0=some (.normal,[.int .i64 op,.bool false],[],m0):=by
   by_cases c1:op≥38
   ·have c2:¬op≤45:=by omega
    simp only[C39_c0,go_sem,c1,c2,decide_true,decide_false,if_true]
   ·simp only[C39_c0,go_sem,c1,decide_false,Bool.false_eq_true,if_false]
  rw[hc]
  rcases rowsOk_fnd op hok with ⟨h1,h2⟩ | ⟨r,t,h1,h2,h3⟩
  ·rw[h1] at h46
   have hh:=fun (R:Type) (K:IV→IM→Option R)=>callC_cw h46 (by rfl) K
   rw[h2]
   have n1:(IV.nilFunc).refs=some 0:=rfl
   simp only[go_sem,Bool.false_eq_true,if_false,hh,refC_of refs_nil,refC_of n1]
   rfl
  ·rw[h1] at h46
   have hh:=fun (R:Type) (K:IV→IM→Option R)=>callC_cw h46 (by rfl) K
   obtain⟨a,b,k,d⟩:=r
   simp only[rowOk,Bool.and_eq_true,decide_eq_true_eq] at h3
   obtain⟨h3,h4,h5,h6,h7⟩:=h3
   rw[h2]
   simp only[rowC] at hh
   simp only[go_sem,Bool.false_eq_true,if_false,hh,refC_of h6,refC_of h7,h4]
   rfl
theorem call40 (op:Int) (m:IM):cw (.f 40) [.int .i64 op] m=some (.int .i64 (fmR op),m):=by
 have h1:C40_c0 op m=some (.normal,[.int .i64 op,.bool (decide (op=29∨op=30∨op=31∨(46≤op∧op≤49)))],[],m):=by
  by_cases a:op=29
  ·subst a;simp[C40_c0,go_sem]
  by_cases b:op=30
  ·subst b;simp[C40_c0,go_sem]
  by_cases c:op=31
  ·subst c;simp[C40_c0,go_sem]
  by_cases d:46≤op
  ·simp[C40_c0,go_sem,a,b,c,d]
  ·simp[C40_c0,go_sem,a,b,c,d]
 have h2:C40_c1 op m=some (.normal,[.int .i64 op,.bool (decide ((15≤op∧op≤17)∨(34≤op∧op≤37)))],[],m):=by
  by_cases a:15≤op
  ·by_cases b:op≤17
   ·simp[C40_c1,go_sem,a,b]
   ·by_cases c:34≤op
    ·simp[C40_c1,go_sem,a,b,c]
    ·simp[C40_c1,go_sem,a,b,c]
  ·have c:¬34≤op:=by omega
   simp[C40_c1,go_sem,a,c]
 have h3:C40_c2 op m=some (.normal,[.int .i64 op,.bool (decide (6≤op∧op≤33))],[],m):=by
  by_cases a:6≤op
  ·simp[C40_c2,go_sem,a]
  ·simp[C40_c2,go_sem,a]
 have h4:C40_c3 op m=some (.normal,[.bool (decide (38≤op∧op≤45))],[],m):=by
  by_cases a:38≤op
  ·simp[C40_c3,go_sem,a]
  ·simp[C40_c3,go_sem,a]
 apply F40_call
 unfold F40 fmR
 rw[h1]
 by_cases g1:op=29∨op=30∨op=31∨(46≤op∧op≤49)
 ·rw[if_pos g1,decide_eq_true g1]
  simp only[go_sem,if_true]
 ·rw[if_neg g1,decide_eq_false g1]
  by_cases g2:(15≤op∧op≤17)∨(34≤op∧op≤37)
  ·rw[decide_eq_true g2] at h2
   rw[if_pos g2]
   simp only[go_sem,h2,if_true,Bool.false_eq_true,if_false]
  ·rw[decide_eq_false g2] at h2
   rw[if_neg g2]
   by_cases g3:6≤op∧op≤33
   ·rw[decide_eq_true g3] at h3
    rw[if_pos g3]
    simp only[go_sem,h2,h3,if_true,Bool.false_eq_true,if_false]
   ·rw[decide_eq_false g3] at h3
    rw[if_neg g3]
    by_cases g4:38≤op∧op≤45
    ·rw[decide_eq_true g4] at h4
     rw[if_pos g4]
     simp only[go_sem,h2,h3,h4,if_true,Bool.false_eq_true,if_false]
    ·rw[decide_eq_false g4] at h4
     rw[if_neg g4]
     simp only[go_sem,h2,h3,h4,if_true,Bool.false_eq_true,if_false]
def NM:List (List UInt8):=[[99,111,110,115,116],[117,110,100,101,102],[110,117,108,108],[103,108,111,98,97,108],[115,108,111,116],[109,111,118,101],[97,100,100],[115,117,98],[109,117,108],[97,100,100,119,114,97,112],[115,117,98,119,114,97,112],[109,117,108,119,114,97,112],[97,100,100,115,97,116],[115,117,98,115,97,116],[109,117,108,115,97,116],[97,100,100,111,118,101,114],[115,117,98,111,118,101,114],[109,117,108,111,118,101,114],[100,105,118],[100,105,118,102,108,111,111,114],[100,105,118,101,120,97,99,116],[114,101,109],[109,111,100],[115,104,108],[115,104,108,101,120,97,99,116],[115,104,114],[97,110,100],[111,114],[120,111,114],[110,111,116],[110,101,103],[110,101,103,119,114,97,112],[109,105,110],[109,97,120],[101,113],[110,101],[108,116],[108,101],[102,105,116],[102,105,116,115],[116,114,117,110,99],[98,105,116,115],[116,111,102,108,111,97,116],[116,111,105,110,116],[116,111,102,105,116,115],[114,111,117,110,100],[112,111,112,99,111,117,110,116],[99,108,122],[99,116,122],[98,121,116,101,115,119,97,112],[108,111,97,100],[115,116,111,114,101],[111,102,102,115,101,116],[105,110,100,101,120],[99,111,112,121],[101,114,97,115,101],[97,108,108,111,99],[102,114,101,101],[99,97,108,108],[97,115,115,117,109,101],[111,117,116],[111,117,116,98,121,116,101,115],[116,114,97,99,101],[102,111,114,103,101,116],[106,117,109,112],[98,114,97,110,99,104],[115,119,105,116,99,104],[114,101,116,117,114,110],[117,110,114,101,97,99,104,97,98,108,101],[112,97,110,105,99]]
def KN:List (List UInt8):=[[111,118,101,114,102,108,111,119],[115,104,105,102,116],[115,104,105,102,116,111,117,116],[100,105,118,105,100,101],[105,110,101,120,97,99,116],[99,97,115,116],[110,117,108,108],[101,114,114,111,114],[98,111,117,110,100,115],[116,97,103],[117,110,114,101,97,99,104,97,98,108,101],[110,101,103,97,116,105,118,101],[101,120,112,108,105,99,105,116],[117,110,100,101,102,105,110,101,100],[97,100,100,114,101,115,115],[102,114,101,101,100],[97,108,105,103,110],[99,111,110,115,116],[102,114,101,101]]
def slR (l:List (List UInt8)):IV:=.sl (l.map .str) l.length
def tm11 (op:Int):Env:=[(6,.func 59 [] [],.any),(3,.pB 1 0,.any),(2,.pB 0 0,.any),(1,.pI [.int .i64 op] 0,.any),(0,.int .i64 op,.any)]
def P11 (op:Int) (s:List UInt8) (e:Int) (j:Nat):IM:=⟨[.cells [.str s] [.any],.cells [.int .i64 e] [.any],.loop 0 11 0 (tm11 op) j],0⟩
def tm13 (s:List UInt8):Env:=[(8,.func 59 [] [],.any),(3,.pB 1 0,.any),(2,.pB 0 0,.any),(1,.pI [.str s] 0,.any),(0,.str s,.any)]
def P13 (s:List UInt8) (r e:Int) (j:Nat):IM:=⟨[.cells [.int .i64 r] [.any],.cells [.int .i64 e] [.any],.loop 0 13 0 (tm13 s) j],0⟩
theorem fld11 (op:Int):cw (.f 43) [.str [99,111,110,115,116,32,117,110,100,101,102,32,110,117,108,108,32,103,108,111,98,97,108,32,115,108,111,116,32,109,111,118,101,32,97,100,100,32,115,117,98,32,109,117,108,32,97,100,100,119,114,97,112,32,115,117,98,119,114,97,112,32,109,117,108,119,114,97,112,32,97,100,100,115,97,116,32,115,117,98,115,97,116,32,109,117,108,115,97,116,32,97,100,100,111,118,101,114,32,115,117,98,111,118,101,114,32,109,117,108,111,118,101,114,32,100,105,118,32,100,105,118,102,108,111,111,114,32,100,105,118,101,120,97,99,116,32,114,101,109,32,109,111,100,32,115,104,108,32,115,104,108,101,120,97,99,116,32,115,104,114,32,97,110,100,32,111,114,32,120,111,114,32,110,111,116,32,110,101,103,32,110,101,103,119,114,97,112,32,109,105,110,32,109,97,120,32,101,113,32,110,101,32,108,116,32,108,101,32,102,105,116,32,102,105,116,115,32,116,114,117,110,99,32,98,105,116,115,32,116,111,102,108,111,97,116,32,116,111,105,110,116,32,116,111,102,105,116,115,32,114,111,117,110,100,32,112,111,112,99,111,117,110,116,32,99,108,122,32,99,116,122,32,98,121,116,101,115,119,97,112,32,108,111,97,100,32,115,116,111,114,101,32,111,102,102,115,101,116,32,105,110,100,101,120,32,99,111,112,121,32,101,114,97,115,101,32,97,108,108,111,99,32,102,114,101,101,32,99,97,108,108,32,97,115,115,117,109,101,32,111,117,116,32,111,117,116,98,121,116,101,115,32,116,114,97,99,101,32,102,111,114,103,101,116,32,106,117,109,112,32,98,114,97,110,99,104,32,115,119,105,116,99,104,32,114,101,116,117,114,110,32,117,110,114,101,97,99,104,97,98,108,101,32,112,97,110,105,99]] (P11 op [] 0 0)=some (slR NM,P11 op [] 0 0):=callW_iff.2 ⟨2000,by kernel_rfl⟩
theorem fld13 (s:List UInt8):cw (.f 43) [.str [99,111,110,115,116,32,117,110,100,101,102,32,110,117,108,108,32,103,108,111,98,97,108,32,115,108,111,116,32,109,111,118,101,32,97,100,100,32,115,117,98,32,109,117,108,32,97,100,100,119,114,97,112,32,115,117,98,119,114,97,112,32,109,117,108,119,114,97,112,32,97,100,100,115,97,116,32,115,117,98,115,97,116,32,109,117,108,115,97,116,32,97,100,100,111,118,101,114,32,115,117,98,111,118,101,114,32,109,117,108,111,118,101,114,32,100,105,118,32,100,105,118,102,108,111,111,114,32,100,105,118,101,120,97,99,116,32,114,101,109,32,109,111,100,32,115,104,108,32,115,104,108,101,120,97,99,116,32,115,104,114,32,97,110,100,32,111,114,32,120,111,114,32,110,111,116,32,110,101,103,32,110,101,103,119,114,97,112,32,109,105,110,32,109,97,120,32,101,113,32,110,101,32,108,116,32,108,101,32,102,105,116,32,102,105,116,115,32,116,114,117,110,99,32,98,105,116,115,32,116,111,102,108,111,97,116,32,116,111,105,110,116,32,116,111,102,105,116,115,32,114,111,117,110,100,32,112,111,112,99,111,117,110,116,32,99,108,122,32,99,116,122,32,98,121,116,101,115,119,97,112,32,108,111,97,100,32,115,116,111,114,101,32,111,102,102,115,101,116,32,105,110,100,101,120,32,99,111,112,121,32,101,114,97,115,101,32,97,108,108,111,99,32,102,114,101,101,32,99,97,108,108,32,97,115,115,117,109,101,32,111,117,116,32,111,117,116,98,121,116,101,115,32,116,114,97,99,101,32,102,111,114,103,101,116,32,106,117,109,112,32,98,114,97,110,99,104,32,115,119,105,116,99,104,32,114,101,116,117,114,110,32,117,110,114,101,97,99,104,97,98,108,101,32,112,97,110,105,99]] (P13 s 0 0 0)=some (slR NM,P13 s 0 0 0):=callW_iff.2 ⟨2000,by kernel_rfl⟩
theorem fld19:cw (.f 43) [.str [111,118,101,114,102,108,111,119,32,115,104,105,102,116,32,115,104,105,102,116,111,117,116,32,100,105,118,105,100,101,32,105,110,101,120,97,99,116,32,99,97,115,116,32,110,117,108,108,32,101,114,114,111,114,32,98,111,117,110,100,115,32,116,97,103,32,117,110,114,101,97,99,104,97,98,108,101,32,110,101,103,97,116,105,118,101,32,101,120,112,108,105,99,105,116,32,117,110,100,101,102,105,110,101,100,32,97,100,100,114,101,115,115,32,102,114,101,101,100,32,97,108,105,103,110,32,99,111,110,115,116,32,102,114,101,101]] m0=some (slR KN,m0):=callW_iff.2 ⟨2000,by kernel_rfl⟩
theorem names38:cw (.f 38) [] m0=some (slR NM,m0):=callW_iff.2 ⟨100,by kernel_rfl⟩
theorem kinds44:cw (.f 44) [] m0=some (slR KN,m0):=callW_iff.2 ⟨100,by kernel_rfl⟩
end Go.Idl
