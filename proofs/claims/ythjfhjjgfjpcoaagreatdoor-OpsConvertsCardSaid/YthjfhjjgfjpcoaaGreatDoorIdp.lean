/- This text proves what the interpreter returns at the functions that OpsConverts reaches, first part; it has no conditions. -/
import Derived.Test.YthjfhjjgfjpcoaaGreatDoorIdl
import Derived.Test.YthjfhjjgfjpcoaaGreatDoorIdn
import Derived.Test.YthjfhjjgfjpcoaaGreatDoorIdo
set_option linter.unusedSimpArgs false
set_option linter.unusedVariables false
namespace Go.Idl
theorem ak0:cw (.f 33) [.int .i64 6,.str [105,56],.int .u64 127,.int .u64 1] ⟨[],0⟩=some (.tup [.int .u64 128,.int .i64 0,.int .i64 0],⟨[],0⟩):=cw_of 400 (by kernel_rfl)
theorem ak1:cw (.f 33) [.int .i64 12,.str [105,56],.int .u64 127,.int .u64 1] ⟨[],0⟩=some (.tup [.int .u64 127,.int .i64 (-1),.int .i64 0],⟨[],0⟩):=cw_of 400 (by kernel_rfl)
theorem ak2:cw (.f 33) [.int .i64 15,.str [105,56],.int .u64 127,.int .u64 1] ⟨[],0⟩=some (.tup [.int .u64 1,.int .i64 (-1),.int .i64 0],⟨[],0⟩):=cw_of 400 (by kernel_rfl)
theorem ak3:cw (.f 33) [.int .i64 18,.str [105,56],.int .u64 128,.int .u64 255] ⟨[],0⟩=some (.tup [.int .u64 128,.int .i64 0,.int .i64 0],⟨[],0⟩):=cw_of 400 (by kernel_rfl)
theorem ak4:cw (.f 33) [.int .i64 21,.str [105,56],.int .u64 128,.int .u64 255] ⟨[],0⟩=some (.tup [.int .u64 0,.int .i64 (-1),.int .i64 0],⟨[],0⟩):=cw_of 400 (by kernel_rfl)
theorem ak5:cw (.f 33) [.int .i64 20,.str [117,56],.int .u64 7,.int .u64 2] ⟨[],0⟩=some (.tup [.int .u64 3,.int .i64 4,.int .i64 0],⟨[],0⟩):=cw_of 400 (by kernel_rfl)
theorem ak6:cw (.f 33) [.int .i64 18,.str [117,56],.int .u64 7,.int .u64 0] ⟨[],0⟩=some (.tup [.int .u64 0,.int .i64 3,.int .i64 0],⟨[],0⟩):=cw_of 400 (by kernel_rfl)
theorem ak7:cw (.f 33) [.int .i64 23,.str [117,56],.int .u64 129,.int .u64 1] ⟨[],0⟩=some (.tup [.int .u64 2,.int .i64 (-1),.int .i64 0],⟨[],0⟩):=cw_of 400 (by kernel_rfl)
theorem ak8:cw (.f 33) [.int .i64 24,.str [117,56],.int .u64 129,.int .u64 1] ⟨[],0⟩=some (.tup [.int .u64 2,.int .i64 2,.int .i64 0],⟨[],0⟩):=cw_of 400 (by kernel_rfl)
theorem ak9:cw (.f 33) [.int .i64 23,.str [117,56],.int .u64 129,.int .u64 8] ⟨[],0⟩=some (.tup [.int .u64 0,.int .i64 1,.int .i64 0],⟨[],0⟩):=cw_of 400 (by kernel_rfl)
theorem ak10:cw (.f 33) [.int .i64 25,.str [105,56],.int .u64 254,.int .u64 1] ⟨[],0⟩=some (.tup [.int .u64 255,.int .i64 (-1),.int .i64 0],⟨[],0⟩):=cw_of 400 (by kernel_rfl)
theorem ak11:cw (.f 34) [.int .i64 38,.str [105,49,54],.str [117,56],.int .u64 300] ⟨[],0⟩=some (.tup [.int .u64 44,.int .i64 5,.int .i64 0],⟨[],0⟩):=cw_of 400 (by kernel_rfl)
theorem ak12:cw (.f 11) [.int .i64 9] ⟨[],0⟩=some (.tup [.str [97,100,100,119,114,97,112],.int .i64 0],⟨[],0⟩):=cw_of 2000 (by kernel_rfl)
theorem ak13:cw (.f 15) [.int .i64 34] ⟨[],0⟩=some (.tup [.int .i64 3,.int .i64 0],⟨[],0⟩):=cw_of 400 (by kernel_rfl)
def akL:List (Nat×List IV×IV):=[(33,[.int .i64 6,.str [105,56],.int .u64 127,.int .u64 1],.tup [.int .u64 128,.int .i64 0,.int .i64 0]),(33,[.int .i64 12,.str [105,56],.int .u64 127,.int .u64 1],.tup [.int .u64 127,.int .i64 (-1),.int .i64 0]),(33,[.int .i64 15,.str [105,56],.int .u64 127,.int .u64 1],.tup [.int .u64 1,.int .i64 (-1),.int .i64 0]),(33,[.int .i64 18,.str [105,56],.int .u64 128,.int .u64 255],.tup [.int .u64 128,.int .i64 0,.int .i64 0]),(33,[.int .i64 21,.str [105,56],.int .u64 128,.int .u64 255],.tup [.int .u64 0,.int .i64 (-1),.int .i64 0]),(33,[.int .i64 20,.str [117,56],.int .u64 7,.int .u64 2],.tup [.int .u64 3,.int .i64 4,.int .i64 0]),(33,[.int .i64 18,.str [117,56],.int .u64 7,.int .u64 0],.tup [.int .u64 0,.int .i64 3,.int .i64 0]),(33,[.int .i64 23,.str [117,56],.int .u64 129,.int .u64 1],.tup [.int .u64 2,.int .i64 (-1),.int .i64 0]),(33,[.int .i64 24,.str [117,56],.int .u64 129,.int .u64 1],.tup [.int .u64 2,.int .i64 2,.int .i64 0]),(33,[.int .i64 23,.str [117,56],.int .u64 129,.int .u64 8],.tup [.int .u64 0,.int .i64 1,.int .i64 0]),(33,[.int .i64 25,.str [105,56],.int .u64 254,.int .u64 1],.tup [.int .u64 255,.int .i64 (-1),.int .i64 0]),(34,[.int .i64 38,.str [105,49,54],.str [117,56],.int .u64 300],.tup [.int .u64 44,.int .i64 5,.int .i64 0]),(11,[.int .i64 9],.tup [.str [97,100,100,119,114,97,112],.int .i64 0]),(15,[.int .i64 34],.tup [.int .i64 3,.int .i64 0])]
theorem ak_ok:okL akL:=by
 intro f as v h
 simp only[akL,List.mem_cons,Prod.mk.injEq,List.not_mem_nil,or_false] at h
 rcases h with ⟨rfl,rfl,rfl⟩ | ⟨rfl,rfl,rfl⟩ | ⟨rfl,rfl,rfl⟩ | ⟨rfl,rfl,rfl⟩ | ⟨rfl,rfl,rfl⟩ | ⟨rfl,rfl,rfl⟩ | ⟨rfl,rfl,rfl⟩ | ⟨rfl,rfl,rfl⟩ | ⟨rfl,rfl,rfl⟩ | ⟨rfl,rfl,rfl⟩ | ⟨rfl,rfl,rfl⟩ | ⟨rfl,rfl,rfl⟩ | ⟨rfl,rfl,rfl⟩ | ⟨rfl,rfl,rfl⟩
 ·exact ak0
 ·exact ak1
 ·exact ak2
 ·exact ak3
 ·exact ak4
 ·exact ak5
 ·exact ak6
 ·exact ak7
 ·exact ak8
 ·exact ak9
 ·exact ak10
 ·exact ak11
 ·exact ak12
 ·exact ak13
theorem f8:tab.fns 8=some i8:=by rfl
theorem p8:prims 8=none:=by rfl
theorem awake8:cw (.f 8) [] ⟨[],0⟩=some (.bool true,⟨[],0⟩):=by
 unfold cw
 rw[callW_fn p8 f8]
 exact fcall_mono (tc_le ak_ok) (tl_le ak_ok 40) (resE_s (x:=i8.call (tc akL) (tl akL 40) [] ⟨[],0⟩) (by kernel_rfl))
theorem callC_cw {R:Type}{c:Callee}{vs:List IV}{m m':IM}{v:IV}(h:cw c vs m=some (v,m')) (hr:(refsAll (vs.flatMap IV.cells)).isSome=true) (K:IV→IM→Option R):callC cw c vs [] m K=K v m':=callC_of h hr K
def digB (b:UInt8):Bool:=Nat.ble 48 b.toNat&&Nat.ble b.toNat 57
def digsB:List UInt8→Bool
 |[]=>true
 |b::r=>digB b&&digsB r
def isNumB (s:List UInt8):Bool:=digsB s&&(decide (s≠[])&&(decide (s=[48])||decide (s.head?≠some 48)))
def valB (s:List UInt8):Nat:=(atoB 0 s).getD 0
def tyR:List UInt8→Int×Int×Bool
 |[]=>(6,0,false)
 |c::d=>if (c=117∨c=105)∧isNumB d=true∧d.length≤3 then
   (if 64<valB d∨(valB d=0∧c=105) then (3,0,false) else (0,(valB d:Int),decide (c=105)))
  else (6,0,false)
def tyOk (s:List UInt8):Bool:=decide ((tyR s).1=0)
def isFlB (s:List UInt8):Bool:=decide (s=[102,51,50])||decide (s=[102,54,52])
def widR (s:List UInt8):Int×Int :=
 if s=[112,116,114] then (64,0) else if s=[102,51,50] then (32,0) else if s=[102,54,52] then (64,0) else if (tyR s).1=0 then ((tyR s).2.1,0) else (0,12)
def convB (op:Int) (f t:List UInt8):Bool :=
 if op=38∨op=39 then tyOk f&&tyOk t
 else if op=40 then tyOk f&&(tyOk t&&decide ((tyR t).2.1≤(tyR f).2.1))
 else if op=41 then (tyOk f||isFlB f)&&((tyOk t||isFlB t)&&decide ((widR f).1=(widR t).1))
 else if op=42 then tyOk f&&isFlB t
 else if op=43∨op=44 then isFlB f&&tyOk t
 else if op=45 then isFlB f&&(isFlB t&&decide (f≠t))
 else false
theorem atoB_digs:∀(s:List UInt8) (a:Nat),digsB s=true→∃n,atoB a s=some n∧n<(a+1)*10^s.length
 |[],a,_=>⟨a,rfl,by simp⟩
 |b::r,a,h=>by
  simp only[digsB,digB,Bool.and_eq_true] at h
  obtain⟨⟨h1,h2⟩,h3⟩:=h
  have h2':=Nat.le_of_ble_eq_true h2
  obtain⟨n,e,hn⟩:=atoB_digs r (a*10+(b.toNat-48)) h3
  refine⟨n,by rw[atoB,h1,h2];exact e,Nat.lt_of_lt_of_le hn ?_⟩
  rw[List.length_cons,Nat.pow_succ,Nat.mul_comm (10^r.length) 10,←Nat.mul_assoc]
  exact Nat.mul_le_mul_right _ (by omega)
theorem valB_lt {s:List UInt8}(h:digsB s=true) (hl:s.length≤3):atoB 0 s=some (valB s)∧valB s<1000:=by
 obtain⟨n,e,hn⟩:=atoB_digs s 0 h
 have:10^s.length≤10^3:=Nat.pow_le_pow_right (by decide) hl
 refine⟨by rw[valB,e];rfl,?_⟩
 rw[valB,e]
 simp only[Option.getD_some]
 omega
theorem isNumB_digs {s:List UInt8}(h:isNumB s=true):digsB s=true:=by
 simp only[isNumB,Bool.and_eq_true] at h
 exact h.1
end Go.Idl
namespace Go.Idl
attribute [local go_sem] uV_cons uI_cons gI gS iteC_if grd_if asI_mk asB_mk asS_mk asA_mk asT_mk asP_mk asP0_mk unc_cons unn_nil unb_cons unbn_nil asC_mk asIt_mk nilV_nil exC_if bindX_mk bindX_none refsC_nil refsC_cons plainC_nil plainC_cons ldP_pI ldP_pB nxt_inl nxt_inr nxt_if rA_nil rA_cons rD_of rD_int rD_bool rD_str rD_agg rD_tup go_nil go_cons elR_agg elR_int elR_bool elR_str elR_of refs_int refs_bool refs_str refs_nil refs_sl settle_id settle_set refsAll_nil refsAll_isSome refs_pB refs_fn cells_int cells_bool cells_str cells_pB cells_agg cells_fn cells_nil cells_sl List.flatMap_cons List.flatMap_nil
theorem dec_hd {s:List UInt8}{k:Nat}(h:k<s.length):(s[k].toNat<128→Utf8.decode ⟨⟨s⟩⟩ k=(s[k].toNat,1))∧(128≤s[k].toNat→128≤(Utf8.decode ⟨⟨s⟩⟩ k).1):=by
 have hg:((ByteArray.mk ⟨s⟩).get! (k+0)).toNat=s[k].toNat:=by
  simp[ByteArray.get!,h]
 rw[Utf8.decode.eq_1]
 simp only[hg]
 refine⟨fun q=>by rw[if_pos q],fun q=>?_⟩
 rw[if_neg (by omega)]
 repeat' split
 all_goals (try simp only[Utf8.runeError])
 all_goals first
  |decide
  |(rename_i h1;simp only[ge_iff_le,Bool.and_eq_true,decide_eq_true_eq] at h1;omega)
  |omega
theorem call159 (c:Int) (m:IM):cw (.f 159) [.int .u8 c] m=some (.bool (decide (48≤c)&&decide (c≤57)),m):=by
 apply F159_call
 by_cases h1:48≤c<;>simp[F159,C159_c0,go_sem,h1]
theorem loop130 (s:List UInt8) (m:IM):∀(j k:Nat),s.length=k+j →
  L130_0 s s k m=some (if digsB (s.drop k)=true then (.exit 0,[.str s],[],m) else (.ret,[.bool false],[],m)):=by
 intro j
 induction j with
 |zero =>
  intro k hk
  have e:s.drop k=[]:=List.drop_eq_nil_iff.2 (by omega)
  have c1:¬k<s.length:=by omega
  rw[e,L130_0_eq]
  simp[B130_0,C130_c0,go_sem,c1,digsB]
 |succ j ih =>
  intro k hk
  have hi:k<s.length:=by omega
  obtain⟨d1,d2⟩:=dec_hd hi
  rw[List.drop_eq_getElem_cons hi,L130_0_eq]
  have ex:∀(c:Int) (i:Int),POp.ev (.extract 2) [.tup [.bool true,.int .i64 i,.int .i32 c]]=some (.int .i32 c):=fun _ _=>rfl
  by_cases g:s[k].toNat<128
  ·rw[B130_0,C130_c0,d1 g]
   by_cases g1:48≤s[k].toNat∧s[k].toNat≤57
   ·have b1:Nat.ble 48 s[k].toNat=true:=Nat.ble_eq_true_of_le g1.1
    have b2:Nat.ble s[k].toNat 57=true:=Nat.ble_eq_true_of_le g1.2
    have c1:¬((s[k].toNat:Int)<48):=by omega
    have c2:¬((57:Int)<(s[k].toNat:Int)):=by omega
    simp only[digsB,digB,b1,b2,Bool.and_self,Bool.true_and]
    rw[←ih (k+1) (by omega)]
    simp only[go_sem,hi,decide_true,if_true,evC_of (ex _ _),C130_c1,c1,c2,decide_false,Bool.false_eq_true,if_false,gt_iff_lt]
    rfl
   ·have b1:digB s[k]=false:=by
     simp only[digB,Bool.and_eq_false_iff]
     by_cases q:48≤s[k].toNat
     ·exact .inr (Bool.eq_false_iff.2 fun e=>g1 ⟨q,Nat.le_of_ble_eq_true e⟩)
     ·exact .inl (Bool.eq_false_iff.2 fun e=>q (Nat.le_of_ble_eq_true e))
    simp only[digsB,b1,Bool.false_and,Bool.false_eq_true,if_false]
    by_cases c1:(s[k].toNat:Int)<48
    ·simp[go_sem,hi,evC_of (ex _ _),C130_c1,c1]
    ·have c2:(57:Int)<(s[k].toNat:Int):=by omega
     simp[go_sem,hi,evC_of (ex _ _),C130_c1,c1,c2]
  ·have q:=d2 (by omega)
   have b1:digB s[k]=false:=by
    simp only[digB,Bool.and_eq_false_iff]
    exact .inr (Bool.eq_false_iff.2 fun e=>by have:=Nat.le_of_ble_eq_true e;omega)
   simp only[digsB,b1,Bool.false_and,Bool.false_eq_true,if_false]
   rw[B130_0,C130_c0]
   generalize Utf8.decode ⟨⟨s⟩⟩ k=r at q
   have c1:¬((r.1:Int)<48):=by omega
   have c2:(57:Int)<(r.1:Int):=by omega
   simp[go_sem,hi,evC_of (ex _ _),C130_c1,c1,c2]
theorem idx0 {b:UInt8}{r:List UInt8}:POp.ev .idxStr [.str (b::r),.int .i64 0]=some (.int .u8 b.toNat):=rfl
theorem call130 (s:List UInt8) (m:IM):cw (.f 130) [.str s] m=some (.bool (isNumB s),m):=by
 apply F130_call
 unfold F130
 rw[loop130 s m s.length 0 (by omega),List.drop_zero]
 cases h:digsB s with
 |false=>simp[go_sem,isNumB,h]
 |true =>
  cases s with
  |nil=>simp[go_sem,C130_c2,isNumB,digsB]
  |cons b r =>
   by_cases g:b::r=[48]
   ·rw[g];simp[go_sem,C130_c2,isNumB,digsB,digB]
   ·have e1:((b::r)==[48])=false:=by simpa using g
    have e2:((b::r)==([]:List UInt8))=false:=rfl
    have e3:((b.toNat:Int) != 48)=decide (b≠48):=by
     by_cases q:b=48
     ·subst q;rfl
     ·have:(b.toNat:Int)≠48:=fun e=>q (UInt8.toNat_inj.1 (by show b.toNat=48;omega))
      simp[q,this]
    simp[go_sem,C130_c2,evC_of idx0,isNumB,h,e1,e2,e3,g]
theorem mupC_of {R:Type}{m:IM}{id:Nat}{d:EqD}{k v:IV}{es es':List (IV×IV)}(h:m.get id=.map es) (hu:updI d k v es=some es') (hp:(v.plain&&k.plain)=true) (K:IM→Option R) :
  mupC m d (.map id) k v K=K (setM m id (.map es')):=by
 unfold mupC
 simp only[h,hu,hp]
 rfl
theorem lkpC_some {R:Type}{m:IM}{id:Nat}{d:EqD}{z k v:IV}{es:List (IV×IV)}(h:m.get id=.map es) (hu:findI d k es=some (some v)) (K:IV→Option R) :
  lkpC m d z true (.map id) k K=K (.tup [v,.bool true]):=by
 unfold lkpC
 simp only[h,hu]
theorem lkpC_none {R:Type}{m:IM}{id:Nat}{d:EqD}{z k:IV}{es:List (IV×IV)}(h:m.get id=.map es) (hu:findI d k es=some none) (K:IV→Option R) :
  lkpC m d z true (.map id) k K=K (.tup [z,.bool false]):=by
 unfold lkpC
 simp only[h,hu]
theorem call131 (s:List UInt8) (n:Nat) (h:atoB 0 s=some n) (h0:s≠[]) (hl:s.length≤18) (m:IM):cw (.f 131) [.str s] m=some (.tup [.int .i64 n,.nilIface],m):=by
 cases s with
 |nil=>exact absurd rfl h0
 |cons b r =>
  unfold cw
  rw[callW_prim (p:=pAtoi) rfl]
  have hb:Nat.ble r.length 17=true:=Nat.ble_eq_true_of_le (by rw[List.length_cons] at hl;omega)
  simp[pAtoi,hb,h]
theorem slcT (s:List UInt8) (a:Nat) (h:a≤s.length):POp.ev (.sliceStr false true) [.str s,.int .i64 (a:Int)]=some (.str (s.take a)):=by
 have c2:(a:Int)≤(s.length:Int):=by omega
 have c3:(0:Int)≤(a:Int):=by omega
 simp[POp.ev,loHi,bnds,bnd,c2,c3]
theorem slcF (s:List UInt8) (a:Nat) (h:a≤s.length):POp.ev (.sliceStr true false) [.str s,.int .i64 (a:Int)]=some (.str (s.drop a)):=by
 have c2:(a:Int)≤(s.length:Int):=by omega
 have c3:(0:Int)≤(a:Int):=by omega
 have htk:(s.drop a).take (s.length-a)=s.drop a:=List.take_of_length_le (by simp)
 simp[POp.ev,loHi,bnds,bnd,c2,c3,htk]
theorem slc1 (c:UInt8) (d:List UInt8):POp.ev (.sliceStr false true) [.str (c::d),.int .i64 1]=some (.str [c]):=slcT (c::d) 1 (by simp)
theorem slc2 (c:UInt8) (d:List UInt8):POp.ev (.sliceStr true false) [.str (c::d),.int .i64 1]=some (.str d):=slcF (c::d) 1 (by simp)
def ui0:List (IV×IV):=[(.str [117],.bool false),(.str [105],.bool true)]
theorem ui_find (c:UInt8):findI .str (.str [c]) ui0=some (if c=117 then some (.bool false) else if c=105 then some (.bool true) else none):=by
 by_cases h1:c=117
 ·subst h1;rfl
 ·by_cases h2:c=105
  ·subst h2;rfl
  ·have q1:(([c]:List UInt8)==[117])=false:=by simpa using h1
   have q2:(([c]:List UInt8)==[105])=false:=by simpa using h2
   simp only[findI,ui0,keyEq]
   rw[if_neg h1,if_neg h2,q1,q2]
theorem eq2 (n:Nat) (b:Bool):POp.ev (.eqAgg false [(0,.int),(1,.bool)]) [.agg [.int .i64 (n:Int),.bool b],.agg [.int .i64 0,.bool true]]=some (.bool (decide (n=0)&&b)):=by
 have h:(((n:Int)==0))=decide (n=0):=by
  by_cases q:n=0
  ·subst q;rfl
  ·have:(n:Int)≠0:=by omega
   simp[q,this]
 cases b<;>by_cases q:n=0<;>simp[POp.ev,eqPlan,eqS,h,q]
def tyS (s:List UInt8):List UInt8:=if (tyR s).1=0 then s else []
theorem call67 (s:List UInt8) (m:IM):cw (.f 67) [.str s] m=some (.tup [.agg [.int .i64 (tyR s).2.1,.bool (tyR s).2.2,.str (tyS s)],.int .i64 (tyR s).1],m):=by
 have hm:(pushM m (.map [])).get m.size=.map []:=get_pushM _ _
 have hs1:setM (pushM m (.map [])) m.size (.map [(.str [117],.bool false)])=pushM m (.map [(.str [117],.bool false)]):=setM_pushM _ _ _
 have hm1:(pushM m (.map [(.str [117],.bool false)])).get m.size=.map [(.str [117],.bool false)]:=get_pushM _ _
 have hs2:setM (pushM m (.map [(.str [117],.bool false)])) m.size (.map ui0)=pushM m (.map ui0):=setM_pushM _ _ _
 have hm2:(pushM m (.map ui0)).get m.size=.map ui0:=get_pushM _ _
 have hset:∀(v:IV),v.refsDeep=some 0→settle m (pushM m (.map ui0)) v=some (v,m):=fun v hv=>settle_push hv
 have u1:=fun (R:Type) (K:IM→Option R)=>mupC_of (R:=R) (d:=.str) (k:=.str [117]) (v:=.bool false) hm (es':=[(.str [117],.bool false)]) rfl rfl K
 have u2:=fun (R:Type) (K:IM→Option R)=>mupC_of (R:=R) (d:=.str) (k:=.str [105]) (v:=.bool true) hm1 (es':=ui0) rfl rfl K
 apply F67_call
 cases s with
 |nil =>
  have l1:=fun (R:Type) (K:IV→Option R)=>lkpC_none (R:=R) (d:=.str) (z:=.bool false) (k:=.str []) hm2 rfl K
  simp only[F67,C67_c0,C67_c1,go_sem,u1,u2,hs1,hs2,l1,beq_self_eq_true,Bool.not_true,Bool.false_eq_true,if_false,Bool.not_false,if_true]
  exact hset _ rfl
 |cons c d =>
  have e0:((c::d)==([]:List UInt8))=false:=rfl
  by_cases h1:c=117∨c=105
  ·have hf:findI .str (.str [c]) ui0=some (some (.bool (decide (c=105)))):=by
    rw[ui_find]
    rcases h1 with rfl | rfl<;>rfl
   have l1:=fun (R:Type) (K:IV→Option R)=>lkpC_some (R:=R) (d:=.str) (z:=.bool false) (k:=.str [c]) hm2 hf K
   have h130:=fun (R:Type) (K:IV→IM→Option R)=>callC_cw (call130 d (pushM m (.map ui0))) (by simp[go_sem]) K
   by_cases h2:isNumB d=true
   ·by_cases h3:d.length≤3
    ·have c3:¬((d.length:Int)>3):=by omega
     obtain⟨hat,hlt⟩:=valB_lt (isNumB_digs h2) h3
     have hne:d≠[]:=by
      intro e;subst e;cases h2
     have h131:=fun (R:Type) (K:IV→IM→Option R)=>callC_cw (call131 d (valB d) hat hne (by omega) (pushM m (.map ui0))) (by simp[go_sem]) K
     have heq:POp.ev (.eqAgg false [(0,.int),(1,.bool)]) [.agg [.int .i64 (valB d:Int),.bool (decide (c=105))],.agg [.int .i64 0,.bool true]]=some (.bool (decide (valB d=0∧c=105))):=by
      rw[eq2]
      congr 2
      simp[Bool.decide_and]
     by_cases h4:64<valB d
     ·have c4:((valB d:Int)>64):=by omega
      have ht:tyR (c::d)=(3,0,false):=by
       simp only[tyR]
       rw[if_pos ⟨h1,h2,h3⟩,if_pos (.inl h4)]
      simp only[F67,C67_c0,C67_c1,C67_c2,go_sem,u1,u2,hs1,hs2,l1,e0,evC_of (slc1 c d),evC_of (slc2 c d),h130,h2,h131,c3,c4,decide_true,decide_false,Bool.not_true,Bool.false_eq_true,if_false,Bool.not_false,if_true,tyS,ht]
      exact hset _ rfl
     ·have c4:¬((valB d:Int)>64):=by omega
      by_cases h5:valB d=0∧c=105
      ·have ht:tyR (c::d)=(3,0,false):=by
        simp only[tyR]
        rw[if_pos ⟨h1,h2,h3⟩,if_pos (.inr h5)]
       rw[decide_eq_true h5] at heq
       simp only[F67,C67_c0,C67_c1,C67_c2,go_sem,u1,u2,hs1,hs2,l1,e0,evC_of (slc1 c d),evC_of (slc2 c d),h130,h2,h131,c3,c4,evC_of heq,decide_true,decide_false,Bool.not_true,Bool.false_eq_true,if_false,Bool.not_false,if_true,tyS,ht]
       exact hset _ rfl
      ·rw[decide_eq_false h5] at heq
       have ht:tyR (c::d)=(0,(valB d:Int),decide (c=105)):=by
        simp only[tyR]
        rw[if_pos ⟨h1,h2,h3⟩,if_neg (fun e=>e.elim h4 h5)]
       simp only[F67,C67_c0,C67_c1,C67_c2,go_sem,u1,u2,hs1,hs2,l1,e0,evC_of (slc1 c d),evC_of (slc2 c d),h130,h2,h131,c3,c4,evC_of heq,decide_true,decide_false,Bool.not_true,Bool.false_eq_true,if_false,Bool.not_false,if_true,tyS,ht]
       exact hset _ rfl
    ·have c3:((d.length:Int)>3):=by omega
     have ht:tyR (c::d)=(6,0,false):=by
      simp only[tyR]
      rw[if_neg (fun e=>h3 e.2.2)]
     simp only[F67,C67_c0,C67_c1,go_sem,u1,u2,hs1,hs2,l1,e0,evC_of (slc1 c d),evC_of (slc2 c d),h130,h2,c3,decide_true,Bool.not_true,Bool.false_eq_true,if_false,Bool.not_false,if_true,tyS,ht]
     exact hset _ rfl
   ·have h2':isNumB d=false:=Bool.eq_false_iff.2 h2
    have ht:tyR (c::d)=(6,0,false):=by
     simp only[tyR]
     rw[if_neg (fun e=>h2 e.2.1)]
    simp only[F67,C67_c0,C67_c1,go_sem,u1,u2,hs1,hs2,l1,e0,evC_of (slc1 c d),evC_of (slc2 c d),h130,h2',Bool.not_true,Bool.false_eq_true,if_false,Bool.not_false,if_true,tyS,ht]
    exact hset _ rfl
  ·have hf:findI .str (.str [c]) ui0=some none:=by
    rw[ui_find,if_neg (fun e=>h1 (.inl e)),if_neg (fun e=>h1 (.inr e))]
   have l1:=fun (R:Type) (K:IV→Option R)=>lkpC_none (R:=R) (d:=.str) (z:=.bool false) (k:=.str [c]) hm2 hf K
   have ht:tyR (c::d)=(6,0,false):=by
    simp only[tyR]
    rw[if_neg (fun e=>h1 e.1)]
   simp only[F67,C67_c0,C67_c1,go_sem,u1,u2,hs1,hs2,l1,e0,evC_of (slc1 c d),evC_of (slc2 c d),Bool.not_true,Bool.false_eq_true,if_false,Bool.not_false,if_true,tyS,ht]
   exact hset _ rfl
theorem call49 (s:List UInt8) (m:IM):cw (.f 49) [.str s] m=some (.tup [.int .i64 (tyR s).2.1,.bool (tyR s).2.2,.int .i64 (tyR s).1],m):=by
 have h:=fun (R:Type) (K:IV→IM→Option R)=>callC_cw (call67 s m) (by simp[go_sem]) K
 apply F49_call
 simp[F49,go_sem,h]
theorem call28 (s:List UInt8) (m:IM):cw (.f 28) [.str s] m=some (.tup [.agg [.int .i64 (tyR s).2.1,.bool (tyR s).2.2],.bool (tyOk s)],m):=by
 have h:=fun (R:Type) (K:IV→IM→Option R)=>callC_cw (call49 s m) (by simp[go_sem]) K
 have e:((tyR s).1==0)=tyOk s:=by
  simp only[tyOk]
  by_cases q:(tyR s).1=0<;>simp[q]
 apply F28_call
 simp[F28,go_sem,h,e]
theorem tyR_bad (s:List UInt8) (h:¬(tyR s).1=0):(tyR s).2=(0,false):=by
 cases s with
 |nil=>rfl
 |cons c d =>
  by_cases h1:(c=117∨c=105)∧isNumB d=true∧d.length≤3
  ·by_cases h2:64<valB d∨valB d=0∧c=105
   ·simp only[tyR];rw[if_pos h1,if_pos h2]
   ·simp only[tyR] at h;rw[if_pos h1,if_neg h2] at h;exact absurd rfl h
  ·simp only[tyR];rw[if_neg h1]
theorem call35 (b:Bool) (e:Int) (m:IM):cw (.f 35) [.bool b,.int .i64 e] m=some (.int .i64 (if b then e else 0),m):=by
 apply F35_call
 cases b<;>simp[F35,go_sem]
theorem flt0:POp.ev (.idxArr 2 true 2) [.agg [.str [102,51,50],.int .i64 32,.str [102,54,52],.int .i64 64],.int .i64 0]=some (.agg [.str [102,51,50],.int .i64 32]):=rfl
theorem flt1:POp.ev (.idxArr 2 true 2) [.agg [.str [102,51,50],.int .i64 32,.str [102,54,52],.int .i64 64],.int .i64 1]=some (.agg [.str [102,54,52],.int .i64 64]):=rfl
theorem wr1:IntKind.i64.wrap (0+1)=1:=rfl
theorem wr2:IntKind.i64.wrap (1+1)=2:=rfl
theorem call30 (s:List UInt8) (m:IM):cw (.f 30) [.str s] m=some (.bool (isFlB s),m):=by
 have d0:decide ((0:Int)<2)=true:=rfl
 have d1:decide ((1:Int)<2)=true:=rfl
 have d2:decide ((2:Int)<2)=false:=rfl
 apply F30_call
 unfold F30
 by_cases h1:s=[102,51,50]
 ·subst h1
  rw[L30_0_eq]
  simp only[B30_0,go_sem,d0,evC_of flt0,beq_self_eq_true,if_true]
  rfl
 ·have e1:(([102,51,50]:List UInt8)==s)=false:=by simpa using fun e=>h1 e.symm
  have f1:L30_0 s [102,51,50] 32 [102,54,52] 64 0 m=L30_0 s [102,51,50] 32 [102,54,52] 64 1 m:=by
   rw[L30_0_eq]
   simp only[B30_0,go_sem,d0,evC_of flt0,e1,if_true,Bool.false_eq_true,if_false,wr1]
   rfl
  rw[f1,L30_0_eq]
  by_cases h2:s=[102,54,52]
  ·subst h2
   simp only[B30_0,go_sem,d1,evC_of flt1,beq_self_eq_true,if_true]
   rfl
  ·have e2:(([102,54,52]:List UInt8)==s)=false:=by simpa using fun e=>h2 e.symm
   have f2:nxt f30_0 (B30_0 s [102,51,50] 32 [102,54,52] 64 1 m)=L30_0 s [102,51,50] 32 [102,54,52] 64 2 m:=by
    simp only[B30_0,go_sem,d1,evC_of flt1,e2,if_true,Bool.false_eq_true,if_false,wr2]
    rfl
   have hf:isFlB s=false:=by simp[isFlB,h1,h2]
   rw[f2,L30_0_eq,hf]
   simp only[B30_0,go_sem,d2,Bool.false_eq_true,if_false]
   rfl
def wid0:List (IV×IV):=[(.str [112,116,114],.int .i64 64),(.str [102,51,50],.int .i64 32),(.str [102,54,52],.int .i64 64)]
theorem wid_find (s:List UInt8):findI .str (.str s) wid0=some (if s=[112,116,114] then some (.int .i64 64) else if s=[102,51,50] then some (.int .i64 32) else if s=[102,54,52] then some (.int .i64 64) else none):=by
 by_cases h1:s=[112,116,114]
 ·subst h1;rfl
 ·by_cases h2:s=[102,51,50]
  ·subst h2;rfl
  ·by_cases h3:s=[102,54,52]
   ·subst h3;rfl
   ·have q1:(s==[112,116,114])=false:=by simpa using h1
    have q2:(s==[102,51,50])=false:=by simpa using h2
    have q3:(s==[102,54,52])=false:=by simpa using h3
    simp only[findI,wid0,keyEq]
    rw[if_neg h1,if_neg h2,if_neg h3,q1,q2,q3]
theorem call9 (s:List UInt8) (m:IM):cw (.f 9) [.str s] m=some (.tup [.int .i64 (widR s).1,.int .i64 (widR s).2],m):=by
 have d0:decide ((0:Int)<2)=true:=rfl
 have d1:decide ((1:Int)<2)=true:=rfl
 have d2:decide ((2:Int)<2)=false:=rfl
 have hg:∀es,(pushM m (.map es)).get m.size=.map es:=fun es=>get_pushM _ _
 have hs:∀es es',setM (pushM m (.map es)) m.size (.map es')=pushM m (.map es'):=fun _ _=>setM_pushM _ _ _
 have hset:∀es (v:IV),v.refsDeep=some 0→settle m (pushM m (.map es)) v=some (v,m):=fun es v hv=>settle_push hv
 have u0:=fun (R:Type) (K:IM→Option R)=>mupC_of (R:=R) (d:=.str) (k:=.str [112,116,114]) (v:=.int .i64 64) (hg []) (es':=[(.str [112,116,114],.int .i64 64)]) rfl rfl K
 have u1:=fun (R:Type) (K:IM→Option R)=>mupC_of (R:=R) (d:=.str) (k:=.str [102,51,50]) (v:=.int .i64 32) (hg [(.str [112,116,114],.int .i64 64)]) (es':=[(.str [112,116,114],.int .i64 64),(.str [102,51,50],.int .i64 32)]) rfl rfl K
 have u2:=fun (R:Type) (K:IM→Option R)=>mupC_of (R:=R) (d:=.str) (k:=.str [102,54,52]) (v:=.int .i64 64) (hg [(.str [112,116,114],.int .i64 64),(.str [102,51,50],.int .i64 32)]) (es':=wid0) rfl rfl K
 have kp:∀(R:Type) (X:Option R),keepC (.map m.size) [] X=X:=fun _ _=>rfl
 have l0:L9_0 s (.map m.size) [102,51,50] 32 [102,54,52] 64 0 (pushM m (.map [(.str [112,116,114],.int .i64 64)]))=some (.exit 0,[.str s,.map m.size],[],pushM m (.map wid0)):=by
  have f1:L9_0 s (.map m.size) [102,51,50] 32 [102,54,52] 64 0 (pushM m (.map [(.str [112,116,114],.int .i64 64)]))=L9_0 s (.map m.size) [102,51,50] 32 [102,54,52] 64 1 (pushM m (.map [(.str [112,116,114],.int .i64 64),(.str [102,51,50],.int .i64 32)])):=by
   rw[L9_0_eq]
   simp only[B9_0,go_sem,d0,evC_of flt0,u1,hs,kp,if_true,wr1]
   rfl
  have f2:L9_0 s (.map m.size) [102,51,50] 32 [102,54,52] 64 1 (pushM m (.map [(.str [112,116,114],.int .i64 64),(.str [102,51,50],.int .i64 32)]))=L9_0 s (.map m.size) [102,51,50] 32 [102,54,52] 64 2 (pushM m (.map wid0)):=by
   rw[L9_0_eq]
   simp only[B9_0,go_sem,d1,evC_of flt1,u2,hs,kp,if_true,wr2]
   rfl
  rw[f1,f2,L9_0_eq]
  simp only[B9_0,go_sem,d2,Bool.false_eq_true,if_false]
 apply F9_call
 by_cases hk:s=[112,116,114]∨s=[102,51,50]∨s=[102,54,52]
 ·have hf:findI .str (.str s) wid0=some (some (.int .i64 (widR s).1)):=by
   rw[wid_find]
   rcases hk with rfl | rfl | rfl<;>rfl
  have h0:(widR s).2=0:=by rcases hk with rfl | rfl | rfl<;>rfl
  have l1:=fun (R:Type) (K:IV→Option R)=>lkpC_some (R:=R) (d:=.str) (z:=.int .i64 0) (k:=.str s) (hg wid0) hf K
  simp only[F9,go_sem,u0,hs,l0,l1,h0,if_true]
  exact hset _ _ rfl
 ·have h1:¬s=[112,116,114]:=fun e=>hk (.inl e)
  have h2:¬s=[102,51,50]:=fun e=>hk (.inr (.inl e))
  have h3:¬s=[102,54,52]:=fun e=>hk (.inr (.inr e))
  have hf:findI .str (.str s) wid0=some none:=by
   rw[wid_find,if_neg h1,if_neg h2,if_neg h3]
  have l1:=fun (R:Type) (K:IV→Option R)=>lkpC_none (R:=R) (d:=.str) (z:=.int .i64 0) (k:=.str s) (hg wid0) hf K
  have c28:=fun (R:Type) (K:IV→IM→Option R)=>callC_cw (call28 s (pushM m (.map wid0))) (by simp[go_sem]) K
  have c35:=fun (R:Type) (K:IV→IM→Option R)=>callC_cw (call35 (!tyOk s) 12 (pushM m (.map wid0))) (by simp[go_sem]) K
  have hw:widR s=((tyR s).2.1,if (!tyOk s)=true then 12 else 0):=by
   unfold widR
   rw[if_neg h1,if_neg h2,if_neg h3]
   by_cases q:(tyR s).1=0
   ·simp[tyOk,q]
   ·have:(tyR s).2.1=0:=by rw[tyR_bad s q]
    simp[tyOk,q,this]
  simp only[F9,go_sem,u0,hs,l0,l1,c28,c35,hw,Bool.false_eq_true,if_false]
  exact hset _ _ rfl
end Go.Idl
