/- This text proves for single functions of the program what their runs come to, as plain formulas; it has no conditions. -/
import Derived.Test.YthjfhjjgfjpcoaaGreatDoorIdn
set_option linter.unusedSimpArgs false
set_option linter.unusedVariables false
namespace Go.Idl
section
set_option maxRecDepth 100000
def ty5:Tys:=tyG [(.one .sl,[0,5]),(.one .bool,[2,13]),(.one .str,[4,10,11]),(.one (.int .i64),[6,7,12,14])]
def x5_0:XP:=[⟨(.exit 0),[],[],[]⟩,⟨.ret,[(2,unk)],[],[]⟩]
def p5_0:Pl:=.z
def pl5:Pl:=(.n none .z (.n none (.n none .z (.n none (.n (some x5_0) p5_0 .z) .z)) .z))
noncomputable def f5_0:St→Option (St⊕LR):=fun s=>l5_0.den ty5 cw (St⊕LR) p5_0 s (endS ty5 h5_0 x5_0)
noncomputable def L5_0 (v:IV) (n n1:Int) (m:IM):Option LR:=iter f5_0 (St.mk [(5,v,.any),(6,.int .i64 n,.any),(7,.int .i64 n1,.any)] [] [] m)
noncomputable def B5_0 (v:IV) (n n1:Int) (m:IM):Option (St⊕LR):=iteC (decide (n1<n)) (evC (.indexS 1) [v,.int .i64 n1] fun v0=>ldP m false 1 v0 fun v1=>asS v1 fun s2=>iteC (decide ((↑(List.length s2):Int)>300)) (some (.inr (.ret,[.bool false],[],m))) (notL v (some (.inl (St.mk [(5,v,.any),(6,.int .i64 n,.any),(7,.int .i64 (IntKind.wrap .i64 (n1+1)),.any)] [] [] m))))) (some (.inr (.exit 0,[],[],m)))
theorem L5_0_eq v n n1 m:L5_0 v n n1 m=nxt f5_0 (B5_0 v n n1 m):=(iter_nxt _ _).trans (congrArg (nxt _) (by kernel_rfl))
noncomputable def F5 (l:IV) (m:IM):Option (IV×IM):=evC .lenSlice [l] fun v0=>asI .i64 v0 fun n1=>notL l (bindX (L5_0 l n1 0 m) fun e2 l3 o4 m5=>exC (.exit 0) e2 (unn l3 (unbn o4 (settle m m5 (.bool true)))) (exC .ret e2 (unc l3 fun v6 l7=>asB v6 fun b8=>unn l7 (unbn o4 (settle m m5 (.bool b8)))) none))
theorem F5_call l m {res} (h:F5 l m=some res):cw (.f 5) [l] m=some res:=call_den rfl rfl ((by kernel_rfl:denF ty5 pl5 i5 cw _ _=_).trans h)
def ty9:Tys:=tyG [(.one .str,[0,19,25,32]),(.one (.int .i64),[2,3,7,14,21,22,27,30,37,40]),(.one .own,[6,9,18,20,36]),(.one .bool,[8,10,28,29,35,38,39]),(.agg [.str,.int .i64,.str,.int .i64],[13]),(.agg [.str,.int .i64],[16]),(.tup [.one (.int .i64),.one .bool],[23,26]),(.tup [.agg [.int .i64,.bool],.one .bool],[31,33]),(.agg [.int .i64,.bool],[34])]
def x9_0:XP:=[⟨(.exit 0),[(0,.any),(4,.any)],[],[]⟩]
def p9_0:Pl:=.z
def pl9:Pl:=(.n none .z (.n none .z (.n none (.n none .z (.n none (.n (some x9_0) p9_0 .z) .z)) .z)))
noncomputable def f9_0:St→Option (St⊕LR):=fun s=>l9_0.den ty9 cw (St⊕LR) p9_0 s (endS ty9 h9_0 x9_0)
noncomputable def L9_0 (typ:List UInt8) (widths:IV) (s:List UInt8) (n:Int) (s1:List UInt8) (n1 n2:Int) (m:IM):Option LR:=iter f9_0 (St.mk [(0,.str typ,.any),(4,widths,.any),(13,.agg [.str s,.int .i64 n,.str s1,.int .i64 n1],.any),(14,.int .i64 n2,.any)] [] [] m)
noncomputable def B9_0 (typ:List UInt8) (widths:IV) (s:List UInt8) (n:Int) (s1:List UInt8) (n1 n2:Int) (m:IM):Option (St⊕LR):=iteC (decide (n2<2)) (evC (.idxArr 2 true 2) [.agg [.str s,.int .i64 n,.str s1,.int .i64 n1],.int .i64 n2] fun v0=>asA v0 fun l1=>unc l1 fun v2 l3=>asS v2 fun s4=>uI .i64 l3 fun n7 l6=>unn l6 (mupC m .str widths (.str s4) (.int .i64 n7) fun m8=>keepC widths [] (some (.inl (St.mk [(0,.str typ,.any),(4,widths,.any),(13,.agg [.str s,.int .i64 n,.str s1,.int .i64 n1],.any),(14,.int .i64 (IntKind.wrap .i64 (n2+1)),.any)] [] [] m8))))) (some (.inr (.exit 0,[.str typ,widths],[],m)))
theorem L9_0_eq typ widths s n s1 n1 n2 m:L9_0 typ widths s n s1 n1 n2 m=nxt f9_0 (B9_0 typ widths s n s1 n1 n2 m):=(iter_nxt _ _).trans (congrArg (nxt _) (by kernel_rfl))
noncomputable def F9 (typ:List UInt8) (m:IM):Option (IV×IM):=mupC (pushM m (.map [])) .str (.map (IM.size m)) (.str [112,116,114]) (.int .i64 64) fun m0=>bindX (L9_0 typ (.map (IM.size m)) [102,51,50] 32 [102,54,52] 64 0 m0) fun e1 l2 o3 m4=>exC (.exit 0) e1 (unc l2 fun v5 l6=>asS v5 fun s7=>unc l6 fun v8 l9=>unn l9 (unbn o3 (lkpC m4 .str (.int .i64 0) true v8 (.str s7) fun v10=>asT v10 fun l11=>uI .i64 l11 fun n14 l13=>unc l13 fun v15 l16=>asB v15 fun b17=>unn l16 (iteC b17 (settle m m4 (.tup [.int .i64 n14,.int .i64 0])) (callC cw (.f 28) [.str s7] [] m4 fun v18 m19=>asT v18 fun l20=>unc l20 fun v21 l22=>asA v21 fun l23=>uI .i64 l23 fun n26 l25=>unc l25 fun v27 l28=>asB v27 fun b29=>unn l28 (unc l22 fun v30 l31=>asB v30 fun b32=>unn l31 (callC cw (.f 35) [.bool !b32,.int .i64 12] [] m19 fun v33 m34=>asI .i64 v33 fun n35=>settle m m34 (.tup [.int .i64 n26,.int .i64 n35])))))))) none
theorem F9_call typ m {res} (h:F9 typ m=some res):cw (.f 9) [.str typ] m=some res:=call_den rfl rfl ((by kernel_rfl:denF ty9 pl9 i9 cw _ _=_).trans h)
def ty10:Tys:=tyG [(.one .str,[0,7,14]),(.one (.int .i64),[2,3,4,6,16,18,19,21]),(.one .bool,[5,8,9,10,11,12,17,20]),(.tup [.one (.int .i64),.one .bool,.one (.int .i64)],[13,15])]
def x10_c0:XP:=[⟨.normal,[(0,.any),(10,.any)],[],[]⟩]
def pl10:Pl:=(.n none .z (.n none (.n none .z (.n none (.n none .z (.n none .z (.n (some x10_c0) .z .z))) .z)) .z))
noncomputable def C10_c0 (typ s:List UInt8) (m:IM):Option LR:=iteC (s==[102,54,52]) (some (.normal,[.str typ,.bool true],[],m)) (some (.normal,[.str typ,.bool (s==[112,116,114])],[],m))
noncomputable def F10 (typ:List UInt8) (m:IM):Option (IV×IM):=iteC (typ==[102,51,50]) (settle m m (.tup [.int .i64 32,.int .i64 0])) (bindX (C10_c0 typ typ m) fun e0 l1 o2 m3=>exC .normal e0 (unc l1 fun v4 l5=>asS v4 fun s6=>unc l5 fun v7 l8=>asB v7 fun b9=>unn l8 (unbn o2 (iteC b9 (settle m m3 (.tup [.int .i64 64,.int .i64 0])) (callC cw (.f 36) [.str s6] [] m3 fun v10 m11=>asT v10 fun l12=>uI .i64 l12 fun n15 l14=>unc l14 fun v16 l17=>asB v16 fun b18=>uI .i64 l17 fun n21 l20=>unn l20 (iteC (n21 != 0) (settle m m11 (.tup [.int .i64 0,.int .i64 12])) (settle m m11 (.tup [.int .i64 n15,.int .i64 0]))))))) none)
theorem F10_call typ m {res} (h:F10 typ m=some res):cw (.f 10) [.str typ] m=some res:=call_den rfl rfl ((by kernel_rfl:denF ty10 pl10 i10 cw _ _=_).trans h)
def ty28:Tys:=tyG [(.one .str,[0,8]),(.one .own,[2]),(.one .bool,[3,5,11,14,17]),(.one (.int .i64),[4,6,10,12,13,16]),(.tup [.one (.int .i64),.one .bool,.one (.int .i64)],[7,9]),(.agg [.int .i64,.bool],[15])]
def pl28:Pl:=.z
noncomputable def F28 (typ:List UInt8) (m:IM):Option (IV×IM):=callC cw (.f 49) [.str typ] [] m fun v0 m1=>asT v0 fun l2=>uI .i64 l2 fun n5 l4=>unc l4 fun v6 l7=>asB v6 fun b8=>uI .i64 l7 fun n11 l10=>unn l10 (settle m m1 (.tup [.agg [.int .i64 n5,.bool b8],.bool (n11==0)]))
theorem F28_call typ m {res} (h:F28 typ m=some res):cw (.f 28) [.str typ] m=some res:=call_den rfl rfl ((by kernel_rfl:denF ty28 pl28 i28 cw _ _=_).trans h)
def ty30:Tys:=tyG [(.one .str,[0,10,11]),(.one .bool,[2,12]),(.one .own,[4,9]),(.agg [.str,.int .i64,.str,.int .i64],[5]),(.one (.int .i64),[6,13]),(.agg [.str,.int .i64],[8])]
def x30_0:XP:=[⟨(.exit 0),[],[],[]⟩,⟨.ret,[(2,unk)],[.dead 0],[]⟩]
def p30_0:Pl:=.z
def pl30:Pl:=(.n none .z (.n none (.n none .z (.n none (.n (some x30_0) p30_0 .z) .z)) .z))
noncomputable def f30_0:St→Option (St⊕LR):=fun s=>l30_0.den ty30 cw (St⊕LR) p30_0 s (endS ty30 h30_0 x30_0)
noncomputable def L30_0 (typ s:List UInt8) (n:Int) (s1:List UInt8) (n1 n2:Int) (m:IM):Option LR:=iter f30_0 (St.mk [(0,.str typ,.any),(5,.agg [.str s,.int .i64 n,.str s1,.int .i64 n1],.any),(6,.int .i64 n2,.any)] [] [] m)
noncomputable def B30_0 (typ s:List UInt8) (n:Int) (s1:List UInt8) (n1 n2:Int) (m:IM):Option (St⊕LR):=iteC (decide (n2<2)) (evC (.idxArr 2 true 2) [.agg [.str s,.int .i64 n,.str s1,.int .i64 n1],.int .i64 n2] fun v0=>asA v0 fun l1=>unc l1 fun v2 l3=>asS v2 fun s4=>uI .i64 l3 fun n7 l6=>unn l6 (iteC (s4==typ) (some (.inr (.ret,[.bool true],[],m))) (some (.inl (St.mk [(0,.str typ,.any),(5,.agg [.str s,.int .i64 n,.str s1,.int .i64 n1],.any),(6,.int .i64 (IntKind.wrap .i64 (n2+1)),.any)] [] [] m))))) (some (.inr (.exit 0,[],[],m)))
theorem L30_0_eq typ s n s1 n1 n2 m:L30_0 typ s n s1 n1 n2 m=nxt f30_0 (B30_0 typ s n s1 n1 n2 m):=(iter_nxt _ _).trans (congrArg (nxt _) (by kernel_rfl))
noncomputable def F30 (typ:List UInt8) (m:IM):Option (IV×IM):=bindX (L30_0 typ [102,51,50] 32 [102,54,52] 64 0 m) fun e0 l1 o2 m3=>exC (.exit 0) e0 (unn l1 (unbn o2 (settle m m3 (.bool false)))) (exC .ret e0 (unc l1 fun v4 l5=>asB v4 fun b6=>unn l5 (unbn o2 (settle m m3 (.bool b6)))) none)
theorem F30_call typ m {res} (h:F30 typ m=some res):cw (.f 30) [.str typ] m=some res:=call_den rfl rfl ((by kernel_rfl:denF ty30 pl30 i30 cw _ _=_).trans h)
def ty31:Tys:=tyG [(.one .str,[0,3]),(.one .bool,[2,5]),(.one (.int .i64),[4])]
def pl31:Pl:=.z
noncomputable def F31 (typ:List UInt8) (m:IM):Option (IV×IM):=callC cw (.f 50) [.str typ] [] m fun v0 m1=>asI .i64 v0 fun n2=>settle m m1 (.bool (n2==0))
theorem F31_call typ m {res} (h:F31 typ m=some res):cw (.f 31) [.str typ] m=some res:=call_den rfl rfl ((by kernel_rfl:denF ty31 pl31 i31 cw _ _=_).trans h)
def ty32:Tys:=tyG [(.one .str,[0,3,6]),(.one .bool,[2,4,5,7,8])]
def x32_c0:XP:=[⟨.normal,[(2,.any)],[],[]⟩]
def pl32:Pl:=(.n none .z (.n (some x32_c0) .z .z))
noncomputable def C32_c0 (typ:List UInt8) (m:IM):Option LR:=iteC (typ==[102,51,50]) (some (.normal,[.bool true],[],m)) (some (.normal,[.bool (typ==[102,54,52])],[],m))
noncomputable def F32 (typ:List UInt8) (m:IM):Option (IV×IM):=bindX (C32_c0 typ m) fun e0 l1 o2 m3=>exC .normal e0 (unc l1 fun v4 l5=>asB v4 fun b6=>unn l5 (unbn o2 (settle m m3 (.bool b6)))) none
theorem F32_call typ m {res} (h:F32 typ m=some res):cw (.f 32) [.str typ] m=some res:=call_den rfl rfl ((by kernel_rfl:denF ty32 pl32 i32 cw _ _=_).trans h)
def ty35:Tys:=tyG [(.one .bool,[0,5]),(.one (.int .i64),[1,4,6])]
def pl35:Pl:=.z
noncomputable def F35 (bad:Bool) (e:Int) (m:IM):Option (IV×IM):=iteC bad (settle m m (.int .i64 e)) (settle m m (.int .i64 0))
theorem F35_call bad e m {res} (h:F35 bad e m=some res):cw (.f 35) [.bool bad,.int .i64 e] m=some res:=call_den rfl rfl ((by kernel_rfl:denF ty35 pl35 i35 cw _ _=_).trans h)
def ty36:Tys:=tyG [(.one .str,[0,9]),(.one (.int .i64),[2,4,6,7,12,13,14,16,17]),(.one .bool,[3,5,11,15,18]),(.tup [.one .bool,.one (.int .i64),.one (.int .i64)],[8,10])]
def pl36:Pl:=.z
noncomputable def F36 (typ:List UInt8) (m:IM):Option (IV×IM):=callC cw (.f 58) [.str typ] [] m fun v0 m1=>asT v0 fun l2=>unc l2 fun v3 l4=>asB v3 fun b5=>uI .i64 l4 fun n8 l7=>uI .i64 l7 fun n11 l10=>unn l10 (iteC (n11 != 0) (settle m m1 (.tup [.int .i64 0,.bool false,.int .i64 n11])) (settle m m1 (.tup [.int .i64 n8,.bool b5,.int .i64 0])))
theorem F36_call typ m {res} (h:F36 typ m=some res):cw (.f 36) [.str typ] m=some res:=call_den rfl rfl ((by kernel_rfl:denF ty36 pl36 i36 cw _ _=_).trans h)
def ty45:Tys:=tyG [(.one .bool,[0,5]),(.one (.int .i64),[1,4,6])]
def pl45:Pl:=.z
noncomputable def F45 (is:Bool) (e:Int) (m:IM):Option (IV×IM):=iteC is (settle m m (.int .i64 e)) (settle m m (.int .i64 0))
theorem F45_call is e m {res} (h:F45 is e m=some res):cw (.f 45) [.bool is,.int .i64 e] m=some res:=call_den rfl rfl ((by kernel_rfl:denF ty45 pl45 i45 cw _ _=_).trans h)
def ty49:Tys:=tyG [(.one .str,[0,8]),(.one (.int .i64),[2,4,6,11,14,18]),(.one .bool,[3,17]),(.one .own,[5,12,13,15,16]),(.tup [.agg [.int .i64,.bool,.str],.one (.int .i64)],[7,9]),(.agg [.int .i64,.bool,.str],[10])]
def pl49:Pl:=.z
noncomputable def F49 (typ:List UInt8) (m:IM):Option (IV×IM):=callC cw (.f 67) [.str typ] [] m fun v0 m1=>asT v0 fun l2=>unc l2 fun v3 l4=>asA v3 fun l5=>uI .i64 l5 fun n8 l7=>unc l7 fun v9 l10=>asB v9 fun b11=>unc l10 fun v12 l13=>asS v12 fun s14=>unn l13 (uI .i64 l4 fun n17 l16=>unn l16 (settle m m1 (.tup [.int .i64 n8,.bool b11,.int .i64 n17])))
theorem F49_call typ m {res} (h:F49 typ m=some res):cw (.f 49) [.str typ] m=some res:=call_den rfl rfl ((by kernel_rfl:denF ty49 pl49 i49 cw _ _=_).trans h)
def ty50:Tys:=tyG [(.one .str,[0,7]),(.one (.int .i64),[2,4,5,10,11,12]),(.one .bool,[3,9]),(.tup [.one .bool,.one (.int .i64),.one (.int .i64)],[6,8])]
def pl50:Pl:=.z
noncomputable def F50 (typ:List UInt8) (m:IM):Option (IV×IM):=callC cw (.f 58) [.str typ] [] m fun v0 m1=>asT v0 fun l2=>unc l2 fun v3 l4=>asB v3 fun b5=>uI .i64 l4 fun n8 l7=>uI .i64 l7 fun n11 l10=>unn l10 (settle m m1 (.int .i64 n11))
theorem F50_call typ m {res} (h:F50 typ m=some res):cw (.f 50) [.str typ] m=some res:=call_den rfl rfl ((by kernel_rfl:denF ty50 pl50 i50 cw _ _=_).trans h)
def ty58:Tys:=tyG [(.one .str,[0,8,11,15,21,26,27,33]),(.one .bool,[2,6,7,9,10,13,14,17,18,19,20,23,24,30,31,32,35,36,39,40,41,42,44,45,46]),(.one (.int .i64),[3,4,5,22,29,37,38,43,47]),(.one (.int .u8),[12,16,34]),(.tup [.one (.int .i64),.one .bool],[25,28])]
def x58_c0:XP:=[⟨.normal,[(0,.any),(24,.any)],[],[]⟩]
def x58_c1:XP:=[⟨.normal,[(2,.any),(3,.any),(4,.any)],[],[]⟩]
def pl58:Pl:=(.n none .z (.n none (.n (some x58_c0) .z .z) (.n none .z (.n none .z (.n none .z (.n (some x58_c1) .z .z))))))
noncomputable def C58_c0 (typ:List UInt8) (m:IM):Option LR:=iteC (typ==[]) (some (.normal,[.str typ,.bool true],[],m)) (evC .idxStr [.str typ,.int .i64 0] fun v0=>asI .u8 v0 fun n1=>iteC (n1 != 117) (evC .idxStr [.str typ,.int .i64 0] fun v2=>asI .u8 v2 fun n3=>iteC (n3 != 105) (some (.normal,[.str typ,.bool true],[],m)) (some (.normal,[.str typ,.bool (decide ((↑(List.length typ):Int)>4))],[],m))) (some (.normal,[.str typ,.bool (decide ((↑(List.length typ):Int)>4))],[],m)))
noncomputable def C58_c1 (n:Int) (signed:Bool) (m:IM):Option LR:=iteC (decide (n>64)) (callC cw (.f 45) [.bool true,.int .i64 3] [] m fun v0 m1=>asI .i64 v0 fun n2=>some (.normal,[.bool signed,.int .i64 n,.int .i64 n2],[],m1)) (iteC signed (callC cw (.f 45) [.bool (n==0),.int .i64 3] [] m fun v3 m4=>asI .i64 v3 fun n5=>some (.normal,[.bool signed,.int .i64 n,.int .i64 n5],[],m4)) (callC cw (.f 45) [.bool false,.int .i64 3] [] m fun v6 m7=>asI .i64 v6 fun n8=>some (.normal,[.bool signed,.int .i64 n,.int .i64 n8],[],m7)))
noncomputable def F58 (typ:List UInt8) (m:IM):Option (IV×IM):=bindX (C58_c0 typ m) fun e0 l1 o2 m3=>exC .normal e0 (unc l1 fun v4 l5=>asS v4 fun s6=>unc l5 fun v7 l8=>asB v7 fun b9=>unn l8 (unbn o2 (iteC b9 (settle m m3 (.tup [.bool false,.int .i64 0,.int .i64 6])) (evC (.sliceStr true false) [.str s6,.int .i64 1] fun v10=>asS v10 fun s11=>callC cw (.f 92) [.str s11] [] m3 fun v12 m13=>asT v12 fun l14=>uI .i64 l14 fun n17 l16=>unc l16 fun v18 l19=>asB v18 fun b20=>unn l19 (iteC (!b20) (settle m m13 (.tup [.bool false,.int .i64 0,.int .i64 6])) (evC .idxStr [.str s6,.int .i64 0] fun v21=>asI .u8 v21 fun n22=>bindX (C58_c1 n17 (n22==105) m13) fun e23 l24 o25 m26=>exC .normal e23 (unc l24 fun v27 l28=>asB v27 fun b29=>uI .i64 l28 fun n32 l31=>uI .i64 l31 fun n35 l34=>unn l34 (unbn o25 (settle m m26 (.tup [.bool b29,.int .i64 n32,.int .i64 n35])))) none)))))) none
theorem F58_call typ m {res} (h:F58 typ m=some res):cw (.f 58) [.str typ] m=some res:=call_den rfl rfl ((by kernel_rfl:denF ty58 pl58 i58 cw _ _=_).trans h)
def ty67:Tys:=tyG [(.one .str,[0,4,5,12,14,15,16,17,22,29,34,40,56]),(.one .own,[2,11]),(.one (.int .i64),[3,9,35,42,44,47]),(.one .bool,[7,8,13,24,25,26,27,28,30,31,32,33,36,37,45,48,49,52,53]),(.tup [.one .bool,.one .bool],[20,23]),(.agg [.int .i64,.bool,.str],[38,54,57]),(.tup [.one (.int .i64),.one .any],[39,41]),(.agg [.int .i64,.bool],[46,50,51,55])]
def x67_c0:XP:=[⟨.normal,[(0,.any),(4,.any),(5,.any)],[.cells 0 [.int .i64,.bool,.str] [.any,.any,.any]],[(2,0,0)]⟩]
def x67_c1:XP:=[⟨.normal,[(0,.any),(5,.any),(7,.any),(37,.any)],[.cells 0 [.int .i64,.bool,.str] [.any,.any,.any]],[(2,0,0)]⟩]
def x67_c2:XP:=[⟨.normal,[(0,.any),(53,.any)],[.cells 0 [.int .i64,.bool,.str] [.any,.any,.any],.cells 1 [.int .i64,.bool] [.any,.any]],[(2,0,0),(11,1,0)]⟩]
def pl67:Pl:=(.n none .z (.n none .z (.n (some x67_c0) .z (.n none .z (.n none .z (.n none (.n (some x67_c1) .z .z) (.n none .z (.n none .z (.n none (.n (some x67_c2) .z .z) .z)))))))))
noncomputable def C67_c0 (typ letter digits:List UInt8) (n:Int) (b:Bool) (s:List UInt8) (m:IM):Option LR:=iteC (!typ==[]) (evC (.sliceStr false true) [.str typ,.int .i64 1] fun v0=>asS v0 fun s1=>evC (.sliceStr true false) [.str typ,.int .i64 1] fun v2=>asS v2 fun s3=>some (.normal,[.str typ,.str s1,.str s3],[.cells [.int .i64 n,.bool b,.str s] [.any,.any,.any]],m)) (some (.normal,[.str typ,.str letter,.str digits],[.cells [.int .i64 n,.bool b,.str s] [.any,.any,.any]],m))
noncomputable def C67_c1 (typ digits:List UInt8) (signed known:Bool) (n:Int) (b:Bool) (s:List UInt8) (m:IM):Option LR:=iteC (!known) (some (.normal,[.str typ,.str digits,.bool signed,.bool true],[.cells [.int .i64 n,.bool b,.str s] [.any,.any,.any]],m)) (callC cw (.f 130) [.str digits] [] m fun v0 m1=>asB v0 fun b2=>iteC (!b2) (some (.normal,[.str typ,.str digits,.bool signed,.bool true],[.cells [.int .i64 n,.bool b,.str s] [.any,.any,.any]],m1)) (some (.normal,[.str typ,.str digits,.bool signed,.bool (decide ((↑(List.length digits):Int)>3))],[.cells [.int .i64 n,.bool b,.str s] [.any,.any,.any]],m1)))
noncomputable def C67_c2 (typ:List UInt8) (n n1:Int) (b:Bool) (s:List UInt8) (n2:Int) (b1:Bool) (m:IM):Option LR:=iteC (decide (n>64)) (some (.normal,[.str typ,.bool true],[.cells [.int .i64 n1,.bool b,.str s] [.any,.any,.any],.cells [.int .i64 n2,.bool b1] [.any,.any]],m)) (evC (.eqAgg false [(0,.int),(1,.bool)]) [.agg [.int .i64 n2,.bool b1],.agg [.int .i64 0,.bool true]] fun v0=>asB v0 fun b1_1=>some (.normal,[.str typ,.bool b1_1],[.cells [.int .i64 n1,.bool b,.str s] [.any,.any,.any],.cells [.int .i64 n2,.bool b1] [.any,.any]],m))
noncomputable def F67 (typ:List UInt8) (m:IM):Option (IV×IM):=bindX (C67_c0 typ [] [] 0 false [] m) fun e0 l1 o2 m3=>exC .normal e0 (unc l1 fun v4 l5=>asS v4 fun s6=>unc l5 fun v7 l8=>asS v7 fun s9=>unc l8 fun v10 l11=>asS v10 fun s12=>unn l11 (unb o2 fun x13 o14=>asC x13 fun l15=>uI .i64 l15 fun n18 l17=>unc l17 fun v19 l20=>asB v19 fun b21=>unc l20 fun v22 l23=>asS v22 fun s24=>unn l23 (unbn o14 (mupC (pushM m3 (.map [])) .str (.map (IM.size m3)) (.str [117]) (.bool false) fun m25=>mupC m25 .str (.map (IM.size m3)) (.str [105]) (.bool true) fun m26=>lkpC m26 .str (.bool false) true (.map (IM.size m3)) (.str s9) fun v27=>asT v27 fun l28=>unc l28 fun v29 l30=>asB v29 fun b31=>unc l30 fun v32 l33=>asB v32 fun b34=>unn l33 (bindX (C67_c1 s6 s12 b31 b34 n18 b21 s24 m26) fun e35 l36 o37 m38=>exC .normal e35 (unc l36 fun v39 l40=>asS v39 fun s41=>unc l40 fun v42 l43=>asS v42 fun s44=>unc l43 fun v45 l46=>asB v45 fun b47=>unc l46 fun v48 l49=>asB v48 fun b50=>unn l49 (unb o37 fun x51 o52=>asC x51 fun l53=>uI .i64 l53 fun n56 l55=>unc l55 fun v57 l58=>asB v57 fun b59=>unc l58 fun v60 l61=>asS v60 fun s62=>unn l61 (unbn o52 (iteC b50 (settle m m38 (.tup [.agg [.int .i64 0,.bool false,.str []],.int .i64 6])) (callC cw (.f 131) [.str s44] [] m38 fun v63 m64=>asT v63 fun l65=>uI .i64 l65 fun n68 l67=>unc l67 fun v69 l70=>unn l70 (bindX (C67_c2 s41 n68 n56 b59 s62 n68 b47 m64) fun e71 l72 o73 m74=>exC .normal e71 (unc l72 fun v75 l76=>asS v75 fun s77=>unc l76 fun v78 l79=>asB v78 fun b80=>unn l79 (unb o73 fun x81 o82=>asC x81 fun l83=>uI .i64 l83 fun n86 l85=>unc l85 fun v87 l88=>asB v87 fun b89=>unc l88 fun v90 l91=>asS v90 fun s92=>unn l91 (unb o82 fun x93 o94=>asC x93 fun l95=>uI .i64 l95 fun n98 l97=>unc l97 fun v99 l100=>asB v99 fun b101=>unn l100 (unbn o94 (iteC b80 (settle m m74 (.tup [.agg [.int .i64 0,.bool false,.str []],.int .i64 3])) (settle m m74 (.tup [.agg [.int .i64 n98,.bool b101,.str s77],.int .i64 0]))))))) none)))))) none))))) none
theorem F67_call typ m {res} (h:F67 typ m=some res):cw (.f 67) [.str typ] m=some res:=call_den rfl rfl ((by kernel_rfl:denF ty67 pl67 i67 cw _ _=_).trans h)
def ty92:Tys:=tyG [(.one .str,[0,6,9,14,18,24,29,36]),(.one (.int .i64),[2,4,5,10,15,23,25,27,28,30,34,35,37,40,41,42]),(.one .bool,[3,7,8,11,12,13,16,17,20,21,22,26,32,33]),(.one (.int .u8),[19,31,38,39])]
def x92_c0:XP:=[⟨.normal,[(0,.any),(22,.any)],[],[]⟩]
def x92_0:XP:=[⟨(.exit 0),[(4,.any)],[],[]⟩,⟨.ret,[(2,unk),(3,unk)],[],[]⟩]
def p92_0:Pl:=.z
def pl92:Pl:=(.n none .z (.n none (.n (some x92_c0) .z .z) (.n none .z (.n none (.n none .z (.n none (.n (some x92_0) p92_0 .z) .z)) .z))))
noncomputable def C92_c0 (s:List UInt8) (m:IM):Option LR:=iteC (s==[]) (some (.normal,[.str s,.bool true],[],m)) (iteC (decide ((↑(List.length s):Int)>15)) (some (.normal,[.str s,.bool true],[],m)) (iteC (decide ((↑(List.length s):Int)>1)) (evC .idxStr [.str s,.int .i64 0] fun v0=>asI .u8 v0 fun n1=>some (.normal,[.str s,.bool (n1==48)],[],m)) (some (.normal,[.str s,.bool false],[],m))))
noncomputable def f92_0:St→Option (St⊕LR):=fun s=>l92_0.den ty92 cw (St⊕LR) p92_0 s (endS ty92 h92_0 x92_0)
noncomputable def L92_0 (s:List UInt8) (n i:Int) (m:IM):Option LR:=iter f92_0 (St.mk [(0,.str s,.any),(4,.int .i64 n,.any),(5,.int .i64 i,.any)] [] [] m)
noncomputable def B92_0 (s:List UInt8) (n i:Int) (m:IM):Option (St⊕LR):=iteC (decide (i<(↑(List.length s):Int))) (evC .idxStr [.str s,.int .i64 i] fun v0=>asI .u8 v0 fun n1=>callC cw (.f 159) [.int .u8 n1] [] m fun v2 m3=>asB v2 fun b4=>iteC (!b4) (some (.inr (.ret,[.int .i64 0,.bool false],[],m3))) (evC .idxStr [.str s,.int .i64 i] fun v5=>asI .u8 v5 fun n6=>some (.inl (St.mk [(0,.str s,.any),(4,.int .i64 (IntKind.wrap .i64 (IntKind.wrap .i64 (10*n)+IntKind.wrap .i64 (IntKind.wrap .u8 (n6-48)))),.any),(5,.int .i64 (IntKind.wrap .i64 (i+1)),.any)] [] [] m3)))) (some (.inr (.exit 0,[.int .i64 n],[],m)))
theorem L92_0_eq s n i m:L92_0 s n i m=nxt f92_0 (B92_0 s n i m):=(iter_nxt _ _).trans (congrArg (nxt _) (by kernel_rfl))
noncomputable def F92 (s:List UInt8) (m:IM):Option (IV×IM):=bindX (C92_c0 s m) fun e0 l1 o2 m3=>exC .normal e0 (unc l1 fun v4 l5=>asS v4 fun s6=>unc l5 fun v7 l8=>asB v7 fun b9=>unn l8 (unbn o2 (iteC b9 (settle m m3 (.tup [.int .i64 0,.bool false])) (bindX (L92_0 s6 0 0 m3) fun e10 l11 o12 m13=>exC (.exit 0) e10 (uI .i64 l11 fun n16 l15=>unn l15 (unbn o12 (settle m m13 (.tup [.int .i64 n16,.bool true])))) (exC .ret e10 (uI .i64 l11 fun n19 l18=>unc l18 fun v20 l21=>asB v20 fun b22=>unn l21 (unbn o12 (settle m m13 (.tup [.int .i64 n19,.bool b22])))) none))))) none
theorem F92_call s m {res} (h:F92 s m=some res):cw (.f 92) [.str s] m=some res:=call_den rfl rfl ((by kernel_rfl:denF ty92 pl92 i92 cw _ _=_).trans h)
def ty130:Tys:=tyG [(.one .str,[0,5,16,19,22]),(.one .bool,[2,8,11,12,14,15,17,18,20,21,24,25,26]),(.one (.int .i32),[4,9,10,13]),(.one .own,[6]),(.one (.int .u8),[23])]
def x130_c0:XP:=[⟨.normal,[(0,.any),(7,.any),(8,.any)],[.iter 0],[(6,0,0)]⟩]
def x130_c1:XP:=[⟨.normal,[(0,.any),(15,.any)],[.iter 0],[(6,0,0)]⟩]
def x130_0:XP:=[⟨(.exit 0),[(0,.any)],[.dead 0],[]⟩,⟨.ret,[(2,unk)],[.dead 0],[]⟩]
def p130_0:Pl:=(.n (some x130_c0) .z (.n none .z (.n none (.n none .z (.n (some x130_c1) .z .z)) .z)))
def x130_c2:XP:=[⟨.normal,[(2,.any)],[.dead 0],[]⟩]
def pl130:Pl:=(.n none .z (.n none (.n none .z (.n none (.n (some x130_0) p130_0 .z) .z)) (.n (some x130_c2) .z .z)))
noncomputable def C130_c0 (s s1:List UInt8) (k:Nat) (m:IM):Option LR:=iteC (decide (k<List.length s1)) (some (.normal,[.str s,.tup [.bool true,.int .i64 (↑k:Int),.int .i32 (↑(Prod.fst (Utf8.decode (ByteArray.mk (Array.mk s1)) k)):Int)],.bool true],[.iter s1 (k+Prod.snd (Utf8.decode (ByteArray.mk (Array.mk s1)) k))],m)) (some (.normal,[.str s,.tup [.bool false],.bool false],[.iter s1 k],m))
noncomputable def C130_c1 (s:List UInt8) (c:Int) (s1:List UInt8) (k:Nat) (m:IM):Option LR:=iteC (decide (c<48)) (some (.normal,[.str s,.bool true],[.iter s1 k],m)) (some (.normal,[.str s,.bool (decide (c>57))],[.iter s1 k],m))
noncomputable def f130_0:St→Option (St⊕LR):=fun s=>l130_0.den ty130 cw (St⊕LR) p130_0 s (endS ty130 h130_0 x130_0)
noncomputable def L130_0 (s s1:List UInt8) (k:Nat) (m:IM):Option LR:=iter f130_0 (St.mk [(0,.str s,.any),(6,.pL 0 0,.any)] [] [(0,.iter s1 k)] m)
noncomputable def B130_0 (s s1:List UInt8) (k:Nat) (m:IM):Option (St⊕LR):=bindX (C130_c0 s s1 k m) fun e0 l1 o2 m3=>exC .normal e0 (unc l1 fun v4 l5=>asS v4 fun s6=>unc l5 fun v7 l8=>unc l8 fun v9 l10=>asB v9 fun b11=>unn l10 (unb o2 fun x12 o13=>asIt x12 fun s14 k15=>unbn o13 (iteC b11 (evC (.extract 2) [v7] fun v16=>asI .i32 v16 fun n17=>bindX (C130_c1 s6 n17 s14 k15 m3) fun e18 l19 o20 m21=>exC .normal e18 (unc l19 fun v22 l23=>asS v22 fun s24=>unc l23 fun v25 l26=>asB v25 fun b27=>unn l26 (unb o20 fun x28 o29=>asIt x28 fun s30 k31=>unbn o29 (iteC b27 (some (.inr (.ret,[.bool false],[],m21))) (some (.inl (St.mk [(0,.str s24,.any),(6,.pL 0 0,.any)] [] [(0,.iter s30 k31)] m21)))))) none) (some (.inr (.exit 0,[.str s6],[],m3)))))) none
theorem L130_0_eq s s1 k m:L130_0 s s1 k m=nxt f130_0 (B130_0 s s1 k m):=(iter_nxt _ _).trans (congrArg (nxt _) (by kernel_rfl))
noncomputable def C130_c2 (s:List UInt8) (m:IM):Option LR:=iteC (!s==[]) (iteC (s==[48]) (some (.normal,[.bool true],[],m)) (evC .idxStr [.str s,.int .i64 0] fun v0=>asI .u8 v0 fun n1=>some (.normal,[.bool (n1 != 48)],[],m))) (some (.normal,[.bool false],[],m))
noncomputable def F130 (s:List UInt8) (m:IM):Option (IV×IM):=bindX (L130_0 s s 0 m) fun e0 l1 o2 m3=>exC (.exit 0) e0 (unc l1 fun v4 l5=>asS v4 fun s6=>unn l5 (unbn o2 (bindX (C130_c2 s6 m3) fun e7 l8 o9 m10=>exC .normal e7 (unc l8 fun v11 l12=>asB v11 fun b13=>unn l12 (unbn o9 (settle m m10 (.bool b13)))) none))) (exC .ret e0 (unc l1 fun v14 l15=>asB v14 fun b16=>unn l15 (unbn o2 (settle m m3 (.bool b16)))) none)
theorem F130_call s m {res} (h:F130 s m=some res):cw (.f 130) [.str s] m=some res:=call_den rfl rfl ((by kernel_rfl:denF ty130 pl130 i130 cw _ _=_).trans h)
def ty159:Tys:=tyG [(.one (.int .u8),[0,3,6]),(.one .bool,[2,4,5,7,8])]
def x159_c0:XP:=[⟨.normal,[(2,.any)],[],[]⟩]
def pl159:Pl:=(.n none .z (.n (some x159_c0) .z .z))
noncomputable def C159_c0 (c:Int) (m:IM):Option LR:=iteC (decide (c≥48)) (some (.normal,[.bool (decide (c≤57))],[],m)) (some (.normal,[.bool false],[],m))
noncomputable def F159 (c:Int) (m:IM):Option (IV×IM):=bindX (C159_c0 c m) fun e0 l1 o2 m3=>exC .normal e0 (unc l1 fun v4 l5=>asB v4 fun b6=>unn l5 (unbn o2 (settle m m3 (.bool b6)))) none
theorem F159_call c m {res} (h:F159 c m=some res):cw (.f 159) [.int .u8 c] m=some res:=call_den rfl rfl ((by kernel_rfl:denF ty159 pl159 i159 cw _ _=_).trans h)
end
section
set_option maxRecDepth 100000
def ty12:Tys:=tyG [(.one (.int .i64),[0,3,4,7,9,13]),(.one .str,[2,15]),(.one .bool,[5,6,10,11]),(.one .sl,[8,12])]
def x12_c0:XP:=[⟨.normal,[(0,.any),(11,.any)],[],[]⟩]
def pl12:Pl:=(.n none .z (.n none (.n (some x12_c0) .z .z) .z))
noncomputable def C12_c0 (op:Int) (m:IM):Option LR:=iteC (decide (op<0)) (some (.normal,[.int .i64 op,.bool true],[],m)) (callC cw (.f 38) [] [] m fun v0 m1=>evC .lenSlice [v0] fun v2=>asI .i64 v2 fun n3=>some (.normal,[.int .i64 op,.bool (decide (op≥n3))],[],m1))
noncomputable def F12 (op:Int) (m:IM):Option (IV×IM):=bindX (C12_c0 op m) fun e0 l1 o2 m3=>exC .normal e0 (uI .i64 l1 fun n6 l5=>unc l5 fun v7 l8=>asB v7 fun b9=>unn l8 (unbn o2 (iteC b9 (settle m m3 (.tup [.str [],.int .i64 8])) (callC cw (.f 38) [] [] m3 fun v10 m11=>evC (.indexS 1) [v10,.int .i64 n6] fun v12=>ldP m11 false 1 v12 fun v13=>asS v13 fun s14=>settle m m11 (.tup [.str s14,.int .i64 0]))))) none
theorem F12_call op m {res} (h:F12 op m=some res):cw (.f 12) [.int .i64 op] m=some res:=call_den rfl rfl ((by kernel_rfl:denF ty12 pl12 i12 cw _ _=_).trans h)
def ty14:Tys:=tyG [(.one .str,[0,16,17]),(.one (.int .i64),[2,3,5,7,9,11,12,14,19]),(.one .sl,[4,6,8,13]),(.one .bool,[10,18])]
def x14_0:XP:=[⟨(.exit 0),[],[],[]⟩,⟨.ret,[(2,unk),(3,unk)],[],[]⟩]
def p14_0:Pl:=.z
def pl14:Pl:=(.n none .z (.n none .z (.n none (.n none .z (.n none (.n (some x14_0) p14_0 .z) .z)) .z)))
noncomputable def f14_0:St→Option (St⊕LR):=fun s=>l14_0.den ty14 cw (St⊕LR) p14_0 s (endS ty14 h14_0 x14_0)
noncomputable def L14_0 (name:List UInt8) (l:IV) (i:Int) (m:IM):Option LR:=iter f14_0 (St.mk [(0,.str name,.any),(4,l,.any),(5,.int .i64 i,.any)] [] [] m)
noncomputable def B14_0 (name:List UInt8) (l:IV) (i:Int) (m:IM):Option (St⊕LR):=evC .lenSlice [l] fun v0=>asI .i64 v0 fun n1=>iteC (decide (i<n1)) (evC (.indexS 1) [l,.int .i64 i] fun v2=>ldP m false 1 v2 fun v3=>asS v3 fun s4=>iteC (s4==name) (some (.inr (.ret,[.int .i64 i,.int .i64 0],[],m))) (notL l (some (.inl (St.mk [(0,.str name,.any),(4,l,.any),(5,.int .i64 (IntKind.wrap .i64 (i+1)),.any)] [] [] m))))) (some (.inr (.exit 0,[],[],m)))
theorem L14_0_eq name l i m:L14_0 name l i m=nxt f14_0 (B14_0 name l i m):=(iter_nxt _ _).trans (congrArg (nxt _) (by kernel_rfl))
noncomputable def F14 (name:List UInt8) (m:IM):Option (IV×IM):=callC cw (.f 38) [] [] m fun v0 m1=>notL v0 (bindX (L14_0 name v0 0 m1) fun e2 l3 o4 m5=>exC (.exit 0) e2 (unn l3 (unbn o4 (settle m m5 (.tup [.int .i64 0,.int .i64 8])))) (exC .ret e2 (uI .i64 l3 fun n8 l7=>uI .i64 l7 fun n11 l10=>unn l10 (unbn o4 (settle m m5 (.tup [.int .i64 n8,.int .i64 n11])))) none))
theorem F14_call name m {res} (h:F14 name m=some res):cw (.f 14) [.str name] m=some res:=call_den rfl rfl ((by kernel_rfl:denF ty14 pl14 i14 cw _ _=_).trans h)
def ty15:Tys:=tyG [(.one (.int .i64),[0,2,3,4,7,10,11]),(.one .bool,[5,6,8,9])]
def x15_c0:XP:=[⟨.normal,[(0,.any),(9,.any)],[],[]⟩]
def pl15:Pl:=(.n none .z (.n none (.n (some x15_c0) .z .z) .z))
noncomputable def C15_c0 (op:Int) (m:IM):Option LR:=iteC (decide (op<0)) (some (.normal,[.int .i64 op,.bool true],[],m)) (some (.normal,[.int .i64 op,.bool (decide (op≥70))],[],m))
noncomputable def F15 (op:Int) (m:IM):Option (IV×IM):=bindX (C15_c0 op m) fun e0 l1 o2 m3=>exC .normal e0 (uI .i64 l1 fun n6 l5=>unc l5 fun v7 l8=>asB v7 fun b9=>unn l8 (unbn o2 (iteC b9 (settle m m3 (.tup [.int .i64 0,.int .i64 8])) (callC cw (.f 39) [.int .i64 n6] [] m3 fun v10 m11=>asI .i64 v10 fun n12=>settle m m11 (.tup [.int .i64 n12,.int .i64 0]))))) none
theorem F15_call op m {res} (h:F15 op m=some res):cw (.f 15) [.int .i64 op] m=some res:=call_den rfl rfl ((by kernel_rfl:denF ty15 pl15 i15 cw _ _=_).trans h)
def ty16:Tys:=tyG [(.one (.int .i64),[0,2,3,4,7,9,12,13]),(.one .bool,[5,6,10,11]),(.one .sl,[8])]
def x16_c0:XP:=[⟨.normal,[(0,.any),(11,.any)],[],[]⟩]
def pl16:Pl:=(.n none .z (.n none (.n (some x16_c0) .z .z) .z))
noncomputable def C16_c0 (op:Int) (m:IM):Option LR:=iteC (decide (op<0)) (some (.normal,[.int .i64 op,.bool true],[],m)) (callC cw (.f 38) [] [] m fun v0 m1=>evC .lenSlice [v0] fun v2=>asI .i64 v2 fun n3=>some (.normal,[.int .i64 op,.bool (decide (op≥n3))],[],m1))
noncomputable def F16 (op:Int) (m:IM):Option (IV×IM):=bindX (C16_c0 op m) fun e0 l1 o2 m3=>exC .normal e0 (uI .i64 l1 fun n6 l5=>unc l5 fun v7 l8=>asB v7 fun b9=>unn l8 (unbn o2 (iteC b9 (settle m m3 (.tup [.int .i64 0,.int .i64 8])) (callC cw (.f 40) [.int .i64 n6] [] m3 fun v10 m11=>asI .i64 v10 fun n12=>settle m m11 (.tup [.int .i64 n12,.int .i64 0]))))) none
theorem F16_call op m {res} (h:F16 op m=some res):cw (.f 16) [.int .i64 op] m=some res:=call_den rfl rfl ((by kernel_rfl:denF ty16 pl16 i16 cw _ _=_).trans h)
def ty17:Tys:=tyG [(.one (.int .i64),[0,5,7,12,13,15,17]),(.one .str,[1,4,8,19]),(.one .bool,[6,9,10,11,14,16,18])]
def x17_c0:XP:=[⟨.normal,[(1,.any),(11,.any)],[],[]⟩]
def pl17:Pl:=(.n none .z (.n none (.n none (.n none .z (.n none .z (.n (some x17_c0) .z .z))) .z) .z))
noncomputable def C17_c0 (op:Int) (typ:List UInt8) (m:IM):Option LR:=callC cw (.f 39) [.int .i64 op] [] m fun v0 m1=>asI .i64 v0 fun n2=>iteC (n2==3) (some (.normal,[.str typ,.bool true],[],m1)) (iteC (op==39) (some (.normal,[.str typ,.bool true],[],m1)) (some (.normal,[.str typ,.bool (op==44)],[],m1)))
noncomputable def F17 (op:Int) (typ:List UInt8) (m:IM):Option (IV×IM):=callC cw (.f 41) [.int .i64 op,.str typ] [] m fun v0 m1=>asB v0 fun b2=>iteC (!b2) (settle m m1 (.tup [.str [],.int .i64 11])) (bindX (C17_c0 op typ m1) fun e3 l4 o5 m6=>exC .normal e3 (unc l4 fun v7 l8=>asS v7 fun s9=>unc l8 fun v10 l11=>asB v10 fun b12=>unn l11 (unbn o5 (iteC b12 (settle m m6 (.tup [.str [117,49],.int .i64 0])) (settle m m6 (.tup [.str s9,.int .i64 0]))))) none)
theorem F17_call op typ m {res} (h:F17 op typ m=some res):cw (.f 17) [.int .i64 op,.str typ] m=some res:=call_den rfl rfl ((by kernel_rfl:denF ty17 pl17 i17 cw _ _=_).trans h)
def ty18:Tys:=tyG [(.one (.int .i64),[0,5,6,7,8,9,12,15,22,25,31,34,38]),(.one .str,[1,4,16,26,41]),(.one .bool,[10,11,13,14,17,18,19,20,21,23,24,27,28,29,30,32,33,35,36,37,39,40])]
def x18_c0:XP:=[⟨.normal,[(0,.any),(1,.any),(6,.any),(30,.any)],[],[]⟩]
def x18_c1:XP:=[⟨.normal,[(1,.any),(40,.any)],[],[]⟩]
def pl18:Pl:=(.n none .z (.n none .z (.n none (.n (some x18_c0) .z .z) (.n none (.n (some x18_c1) .z .z) .z))))
noncomputable def C18_c0 (op:Int) (typ:List UInt8) (k:Int) (m:IM):Option LR:=iteC (k==0) (some (.normal,[.int .i64 op,.str typ,.int .i64 k,.bool true],[],m)) (iteC (k==4) (callC cw (.f 42) [.int .i64 op,.str typ] [] m fun v0 m1=>asB v0 fun b2=>iteC (!b2) (some (.normal,[.int .i64 op,.str typ,.int .i64 k,.bool true],[],m1)) (iteC (k != 4) (callC cw (.f 24) [.int .i64 op,.str typ] [] m1 fun v3 m4=>asB v3 fun b5=>some (.normal,[.int .i64 op,.str typ,.int .i64 k,.bool !b5],[],m4)) (some (.normal,[.int .i64 op,.str typ,.int .i64 k,.bool false],[],m1)))) (iteC (k != 4) (callC cw (.f 24) [.int .i64 op,.str typ] [] m fun v6 m7=>asB v6 fun b8=>some (.normal,[.int .i64 op,.str typ,.int .i64 k,.bool !b8],[],m7)) (some (.normal,[.int .i64 op,.str typ,.int .i64 k,.bool false],[],m))))
noncomputable def C18_c1 (op:Int) (typ:List UInt8) (k:Int) (m:IM):Option LR:=iteC (k==3) (some (.normal,[.str typ,.bool true],[],m)) (iteC (op==39) (some (.normal,[.str typ,.bool true],[],m)) (some (.normal,[.str typ,.bool (op==44)],[],m)))
noncomputable def F18 (op:Int) (typ:List UInt8) (m:IM):Option (IV×IM):=callC cw (.f 40) [.int .i64 op] [] m fun v0 m1=>asI .i64 v0 fun n2=>bindX (C18_c0 op typ n2 m1) fun e3 l4 o5 m6=>exC .normal e3 (uI .i64 l4 fun n9 l8=>unc l8 fun v10 l11=>asS v10 fun s12=>uI .i64 l11 fun n15 l14=>unc l14 fun v16 l17=>asB v16 fun b18=>unn l17 (unbn o5 (iteC b18 (settle m m6 (.tup [.str [],.int .i64 11])) (bindX (C18_c1 n9 s12 n15 m6) fun e19 l20 o21 m22=>exC .normal e19 (unc l20 fun v23 l24=>asS v23 fun s25=>unc l24 fun v26 l27=>asB v26 fun b28=>unn l27 (unbn o21 (iteC b28 (settle m m22 (.tup [.str [117,49],.int .i64 0])) (settle m m22 (.tup [.str s25,.int .i64 0]))))) none)))) none
theorem F18_call op typ m {res} (h:F18 op typ m=some res):cw (.f 18) [.int .i64 op,.str typ] m=some res:=call_den rfl rfl ((by kernel_rfl:denF ty18 pl18 i18 cw _ _=_).trans h)
def ty19:Tys:=tyG [(.one (.int .i64),[0,3,6,9,11,15]),(.one .str,[2,17]),(.one .sl,[4,5,10,14]),(.one .bool,[7,8,12,13])]
def x19_c0:XP:=[⟨.normal,[(0,.any),(4,.any),(13,.any)],[],[]⟩]
def pl19:Pl:=(.n none .z (.n none .z (.n none (.n (some x19_c0) .z .z) .z)))
noncomputable def C19_c0 (kind:Int) (l:IV) (m:IM):Option LR:=iteC (decide (kind<0)) (some (.normal,[.int .i64 kind,l,.bool true],[],m)) (evC .lenSlice [l] fun v0=>asI .i64 v0 fun n1=>some (.normal,[.int .i64 kind,l,.bool (decide (kind≥n1))],[],m))
noncomputable def F19 (kind:Int) (m:IM):Option (IV×IM):=callC cw (.f 43)
 [.str
   (have y :=
    have y :=
     have y :=
      have y :=
       have y:=[32,102,114,101,101];
       111::110::115::116::y;
      have y:=103::110::32::99::y;
      32::97::108::105::y;
     have y :=
      have y:=102::114::101::101::100::y;
      101::115::115::32::y;
     have y:=97::100::100::114::y;
     110::101::100::32::y;
    have y :=
     have y :=
      have y:=110::100::101::102::105::y;
      105::116::32::117::y;
     have y:=112::108::105::99::y;
     101::32::101::120::y;
    have y :=
     have y:=103::97::116::105::118::y;
     101::32::110::101::y;
    have y:=104::97::98::108::y;
    114::101::97::99::y;
   have y :=
    have y :=
     have y :=
      have y:=97::103::32::117::110::y;
      100::115::32::116::y;
     have y:=98::111::117::110::y;
     114::111::114::32::y;
    have y :=
     have y:=108::108::32::101::114::y;
     116::32::110::117::y;
    have y:=32::99::97::115::y;
    120::97::99::116::y;
   have y :=
    have y :=
     have y:=101::32::105::110::101::y;
     105::118::105::100::y;
    have y:=117::116::32::100::y;
    105::102::116::111::y;
   have y :=
    have y:=102::116::32::115::104::y;
    32::115::104::105::y;
   have y:=102::108::111::119::y;
   111::118::101::114::y)]
 [] m fun v0 m1=>bindX (C19_c0 kind v0 m1) fun e2 l3 o4 m5=>exC .normal e2 (uI .i64 l3 fun n8 l7=>unc l7 fun v9 l10=>unc l10 fun v11 l12=>asB v11 fun b13=>unn l12 (unbn o4 (iteC b13 (settle m m5 (.tup [.str [],.int .i64 8])) (evC (.indexS 1) [v9,.int .i64 n8] fun v14=>ldP m5 false 1 v14 fun v15=>asS v15 fun s16=>settle m m5 (.tup [.str s16,.int .i64 0]))))) none
theorem F19_call kind m {res} (h:F19 kind m=some res):cw (.f 19) [.int .i64 kind] m=some res:=call_den rfl rfl ((by kernel_rfl:denF ty19 pl19 i19 cw _ _=_).trans h)
def ty20:Tys:=tyG [(.one (.int .i64),[0,3,4,7,9,13]),(.one .str,[2,15]),(.one .bool,[5,6,10,11]),(.one .sl,[8,12])]
def x20_c0:XP:=[⟨.normal,[(0,.any),(11,.any)],[],[]⟩]
def pl20:Pl:=(.n none .z (.n none (.n (some x20_c0) .z .z) .z))
noncomputable def C20_c0 (kind:Int) (m:IM):Option LR:=iteC (decide (kind<0)) (some (.normal,[.int .i64 kind,.bool true],[],m)) (callC cw (.f 44) [] [] m fun v0 m1=>evC .lenSlice [v0] fun v2=>asI .i64 v2 fun n3=>some (.normal,[.int .i64 kind,.bool (decide (kind≥n3))],[],m1))
noncomputable def F20 (kind:Int) (m:IM):Option (IV×IM):=bindX (C20_c0 kind m) fun e0 l1 o2 m3=>exC .normal e0 (uI .i64 l1 fun n6 l5=>unc l5 fun v7 l8=>asB v7 fun b9=>unn l8 (unbn o2 (iteC b9 (settle m m3 (.tup [.str [],.int .i64 8])) (callC cw (.f 44) [] [] m3 fun v10 m11=>evC (.indexS 1) [v10,.int .i64 n6] fun v12=>ldP m11 false 1 v12 fun v13=>asS v13 fun s14=>settle m m11 (.tup [.str s14,.int .i64 0]))))) none
theorem F20_call kind m {res} (h:F20 kind m=some res):cw (.f 20) [.int .i64 kind] m=some res:=call_den rfl rfl ((by kernel_rfl:denF ty20 pl20 i20 cw _ _=_).trans h)
def ty21:Tys:=tyG [(.one .str,[0,6]),(.one (.int .i64),[2,3,4,8,9,10]),(.tup [.one (.int .i64),.one (.int .i64)],[5,7])]
def pl21:Pl:=.z
noncomputable def F21 (typ:List UInt8) (m:IM):Option (IV×IM):=callC cw (.f 9) [.str typ] [] m fun v0 m1=>asT v0 fun l2=>uI .i64 l2 fun n5 l4=>uI .i64 l4 fun n8 l7=>unn l7 (settle m m1 (.int .i64 n8))
theorem F21_call typ m {res} (h:F21 typ m=some res):cw (.f 21) [.str typ] m=some res:=call_den rfl rfl ((by kernel_rfl:denF ty21 pl21 i21 cw _ _=_).trans h)
def ty22:Tys:=tyG [(.one .str,[0,3,7,12]),(.one (.int .i64),[2,15]),(.one .bool,[4,5,6,8,9,10,11,13,14])]
def x22_c0:XP:=[⟨.normal,[(2,.any)],[],[]⟩]
def pl22:Pl:=(.n none .z (.n (some x22_c0) .z .z))
noncomputable def C22_c0 (typ:List UInt8) (m:IM):Option LR:=callC cw (.f 31) [.str typ] [] m fun v0 m1=>asB v0 fun b2=>iteC (!b2) (callC cw (.f 32) [.str typ] [] m1 fun v3 m4=>asB v3 fun b5=>iteC (!b5) (callC cw (.f 45) [.bool !typ==[112,116,114],.int .i64 12] [] m4 fun v6 m7=>asI .i64 v6 fun n8=>some (.normal,[.int .i64 n8],[],m7)) (callC cw (.f 45) [.bool false,.int .i64 12] [] m4 fun v9 m10=>asI .i64 v9 fun n11=>some (.normal,[.int .i64 n11],[],m10))) (callC cw (.f 45) [.bool false,.int .i64 12] [] m1 fun v12 m13=>asI .i64 v12 fun n14=>some (.normal,[.int .i64 n14],[],m13))
noncomputable def F22 (typ:List UInt8) (m:IM):Option (IV×IM):=bindX (C22_c0 typ m) fun e0 l1 o2 m3=>exC .normal e0 (uI .i64 l1 fun n6 l5=>unn l5 (unbn o2 (settle m m3 (.int .i64 n6)))) none
theorem F22_call typ m {res} (h:F22 typ m=some res):cw (.f 22) [.str typ] m=some res:=call_den rfl rfl ((by kernel_rfl:denF ty22 pl22 i22 cw _ _=_).trans h)
def ty23:Tys:=tyG [(.one (.int .i64),[0,10,19,26,47,48]),(.one .str,[1,16,22]),(.one .bool,[4,6,8,13,14,15,17,20,25,27,28,29,30,31,32,34,35,36,37,38,39,40,42,43,44,45,49,50,51]),(.one .own,[5,7,33,41,46]),(.tup [.agg [.int .i64,.int .i64,.sl,.any],.one .bool],[9,11]),(.agg [.int .i64,.int .i64,.sl,.any],[12]),(.one .sl,[18]),(.tup [.agg [.int .i64,.bool],.one .bool],[21,23]),(.agg [.int .i64,.bool],[24])]
def x23_c0:XP:=[⟨.normal,[(8,.any),(26,.any),(27,.any)],[.dead 0,.cells 1 [.int .i64,.bool] [.any,.any]],[(7,1,0)]⟩]
def x23_c1:XP:=[⟨.normal,[(4,.any)],[.dead 0,.dead 1],[]⟩]
def x23_c2:XP:=[⟨.normal,[(4,.any)],[.dead 0,.dead 1],[]⟩]
def pl23:Pl:=(.n none .z (.n none .z (.n none .z (.n none .z (.n none (.n none .z (.n none (.n (some x23_c0) .z (.n none (.n (some x23_c1) .z .z) (.n none .z (.n none (.n (some x23_c2) .z .z) .z)))) .z)) .z)))))
noncomputable def C23_c0 (is:Bool) (n n1 n2:Int) (v v1:IV) (n3:Int) (b:Bool) (m:IM):Option LR:=iteC (n==46) (some (.normal,[.bool is,.int .i64 n,.bool true],[.cells [.int .i64 n3,.bool b] [.any,.any]],m)) (iteC (n==47) (some (.normal,[.bool is,.int .i64 n,.bool true],[.cells [.int .i64 n3,.bool b] [.any,.any]],m)) (some (.normal,[.bool is,.int .i64 n,.bool (n==48)],[.cells [.int .i64 n3,.bool b] [.any,.any]],m)))
noncomputable def C23_c1 (is:Bool) (n:Int) (b:Bool) (m:IM):Option LR:=iteC is (some (.normal,[.bool !b],[],m)) (some (.normal,[.bool false],[],m))
noncomputable def C23_c2 (is:Bool) (n:Int) (b:Bool) (m:IM):Option LR:=iteC is (iteC (!b) (some (.normal,[.bool (Int.tmod n 8==0)],[],m)) (some (.normal,[.bool false],[],m))) (some (.normal,[.bool false],[],m))
noncomputable def F23 (op:Int) (typ:List UInt8) (m:IM):Option (IV×IM):=callC cw (.f 46) [.int .i64 op] [] m fun v0 m1=>asT v0 fun l2=>unc l2 fun v3 l4=>asA v3 fun l5=>uI .i64 l5 fun n8 l7=>uI .i64 l7 fun n11 l10=>unc l10 fun v12 l13=>unc l13 fun v14 l15=>unn l15 (unc l4 fun v16 l17=>asB v16 fun b18=>unn l17 (refC v12 (refC v14 (iteC (!b18) (settle m m1 (.bool false)) (callC cw (.f 30) [.str typ] [] m1 fun v19 m20=>asB v19 fun b21=>iteC b21 (callC cw (.f 47) [.sl [.int .i64 6,.int .i64 7,.int .i64 8,.int .i64 18,.int .i64 30,.int .i64 34,.int .i64 35,.int .i64 36,.int .i64 37] 9,.int .i64 op] [] m20 fun v22 m23=>asB v22 fun b24=>settle m m23 (.bool b24)) (callC cw (.f 28) [.str typ] [] m20 fun v25 m26=>asT v25 fun l27=>unc l27 fun v28 l29=>asA v28 fun l30=>uI .i64 l30 fun n33 l32=>unc l32 fun v34 l35=>asB v34 fun b36=>unn l35 (unc l29 fun v37 l38=>asB v37 fun b39=>unn l38 (bindX (C23_c0 b39 op n8 n11 v12 v14 n33 b36 m26) fun e40 l41 o42 m43=>exC .normal e40 (unc l41 fun v44 l45=>asB v44 fun b46=>uI .i64 l45 fun n49 l48=>unc l48 fun v50 l51=>asB v50 fun b52=>unn l51 (unb o42 fun x53 o54=>asC x53 fun l55=>uI .i64 l55 fun n58 l57=>unc l57 fun v59 l60=>asB v59 fun b61=>unn l60 (unbn o54 (iteC b52 (bindX (C23_c1 b46 n58 b61 m43) fun e62 l63 o64 m65=>exC .normal e62 (unc l63 fun v66 l67=>asB v66 fun b68=>unn l67 (unbn o64 (settle m m65 (.bool b68)))) none) (iteC (n49==49) (bindX (C23_c2 b46 n58 b61 m43) fun e69 l70 o71 m72=>exC .normal e69 (unc l70 fun v73 l74=>asB v73 fun b75=>unn l74 (unbn o71 (settle m m72 (.bool b75)))) none) (settle m m43 (.bool b46))))))) none))))))))
theorem F23_call op typ m {res} (h:F23 op typ m=some res):cw (.f 23) [.int .i64 op,.str typ] m=some res:=call_den rfl rfl ((by kernel_rfl:denF ty23 pl23 i23 cw _ _=_).trans h)
def ty24:Tys:=tyG [(.one (.int .i64),[0,5,6,8,9,10,11,14,19,22,26,30,34,38,41,51,53,54,57,63,66,67]),(.one .str,[1,17,45,49]),(.one .bool,[4,7,12,13,15,16,18,20,21,23,24,25,27,28,29,31,32,33,35,36,37,39,40,42,43,44,46,47,52,55,56,58,59,60,61,62,64,65,68,69,70]),(.tup [.one (.int .i64),.one .bool,.one (.int .i64)],[48,50])]
def x24_c0:XP:=[⟨.normal,[(0,.any),(1,.any),(16,.any)],[],[]⟩]
def x24_c1:XP:=[⟨.normal,[(4,.any)],[],[]⟩]
def x24_c2:XP:=[⟨.normal,[(0,.any),(6,.any),(7,.any),(59,.any)],[],[]⟩]
def x24_c3:XP:=[⟨.normal,[(4,.any)],[],[]⟩]
def pl24:Pl:=(.n none .z (.n none .z (.n none (.n (some x24_c0) .z .z) (.n none (.n none .z (.n none (.n (some x24_c1) .z .z) .z)) (.n none .z (.n none .z (.n none (.n (some x24_c2) .z (.n none (.n (some x24_c3) .z .z) .z)) .z)))))))
noncomputable def C24_c0 (op:Int) (typ:List UInt8) (k:Int) (m:IM):Option LR:=iteC (k==0) (some (.normal,[.int .i64 op,.str typ,.bool true],[],m)) (some (.normal,[.int .i64 op,.str typ,.bool (k==4)],[],m))
noncomputable def C24_c1 (op:Int) (m:IM):Option LR:=iteC (op==6) (some (.normal,[.bool true],[],m)) (iteC (op==7) (some (.normal,[.bool true],[],m)) (iteC (op==8) (some (.normal,[.bool true],[],m)) (iteC (op==18) (some (.normal,[.bool true],[],m)) (iteC (op==30) (some (.normal,[.bool true],[],m)) (iteC (decide (op≥34)) (some (.normal,[.bool (decide (op≤37))],[],m)) (some (.normal,[.bool false],[],m)))))))
noncomputable def C24_c2 (op n:Int) (signed:Bool) (m:IM):Option LR:=iteC (decide (op≥46)) (some (.normal,[.int .i64 op,.int .i64 n,.bool signed,.bool (decide (op≤49))],[],m)) (some (.normal,[.int .i64 op,.int .i64 n,.bool signed,.bool false],[],m))
noncomputable def C24_c3 (op n:Int) (signed:Bool) (m:IM):Option LR:=iteC (!signed) (iteC (op != 49) (some (.normal,[.bool true],[],m)) (some (.normal,[.bool (Int.tmod n 8==0)],[],m))) (some (.normal,[.bool false],[],m))
noncomputable def F24 (op:Int) (typ:List UInt8) (m:IM):Option (IV×IM):=callC cw (.f 40) [.int .i64 op] [] m fun v0 m1=>asI .i64 v0 fun n2=>bindX (C24_c0 op typ n2 m1) fun e3 l4 o5 m6=>exC .normal e3 (uI .i64 l4 fun n9 l8=>unc l8 fun v10 l11=>asS v10 fun s12=>unc l11 fun v13 l14=>asB v13 fun b15=>unn l14 (unbn o5 (iteC b15 (settle m m6 (.bool false)) (callC cw (.f 32) [.str s12] [] m6 fun v16 m17=>asB v16 fun b18=>iteC b18 (bindX (C24_c1 n9 m17) fun e19 l20 o21 m22=>exC .normal e19 (unc l20 fun v23 l24=>asB v23 fun b25=>unn l24 (unbn o21 (settle m m22 (.bool b25)))) none) (callC cw (.f 31) [.str s12] [] m17 fun v26 m27=>asB v26 fun b28=>iteC (!b28) (settle m m27 (.bool false)) (callC cw (.f 36) [.str s12] [] m27 fun v29 m30=>asT v29 fun l31=>uI .i64 l31 fun n34 l33=>unc l33 fun v35 l36=>asB v35 fun b37=>uI .i64 l36 fun n40 l39=>unn l39 (bindX (C24_c2 n9 n34 b37 m30) fun e41 l42 o43 m44=>exC .normal e41 (uI .i64 l42 fun n47 l46=>uI .i64 l46 fun n50 l49=>unc l49 fun v51 l52=>asB v51 fun b53=>unc l52 fun v54 l55=>asB v54 fun b56=>unn l55 (unbn o43 (iteC b56 (bindX (C24_c3 n47 n50 b53 m44) fun e57 l58 o59 m60=>exC .normal e57 (unc l58 fun v61 l62=>asB v61 fun b63=>unn l62 (unbn o59 (settle m m60 (.bool b63)))) none) (settle m m44 (.bool true))))) none))))))) none
theorem F24_call op typ m {res} (h:F24 op typ m=some res):cw (.f 24) [.int .i64 op,.str typ] m=some res:=call_den rfl rfl ((by kernel_rfl:denF ty24 pl24 i24 cw _ _=_).trans h)
def ty25:Tys:=tyG [(.one .sl,[0,1,6,8,12,17,21]),(.one .bool,[4,10,14,25]),(.one (.int .i64),[5,7,9,11,13,15,16,18,20,22,24])]
def x25_0:XP:=[⟨(.exit 0),[],[],[]⟩,⟨.ret,[(4,unk)],[],[]⟩]
def p25_0:Pl:=.z
def pl25:Pl:=(.n none .z (.n none .z (.n none (.n none .z (.n none (.n (some x25_0) p25_0 .z) .z)) .z)))
noncomputable def f25_0:St→Option (St⊕LR):=fun s=>l25_0.den ty25 cw (St⊕LR) p25_0 s (endS ty25 h25_0 x25_0)
noncomputable def L25_0 (a b:IV) (i:Int) (m:IM):Option LR:=iter f25_0 (St.mk [(0,a,.any),(1,b,.any),(5,.int .i64 i,.any)] [] [] m)
noncomputable def B25_0 (a b:IV) (i:Int) (m:IM):Option (St⊕LR):=evC .lenSlice [a] fun v0=>asI .i64 v0 fun n1=>iteC (decide (i<n1)) (evC (.indexS 1) [a,.int .i64 i] fun v2=>ldP m false 1 v2 fun v3=>asI .i64 v3 fun n4=>evC (.indexS 1) [b,.int .i64 i] fun v5=>ldP m false 1 v5 fun v6=>asI .i64 v6 fun n7=>iteC (n4 != n7) (some (.inr (.ret,[.bool false],[],m))) (notL a (notL b (some (.inl (St.mk [(0,a,.any),(1,b,.any),(5,.int .i64 (IntKind.wrap .i64 (i+1)),.any)] [] [] m)))))) (some (.inr (.exit 0,[],[],m)))
theorem L25_0_eq a b i m:L25_0 a b i m=nxt f25_0 (B25_0 a b i m):=(iter_nxt _ _).trans (congrArg (nxt _) (by kernel_rfl))
noncomputable def F25 (a b:IV) (m:IM):Option (IV×IM):=evC .lenSlice [a] fun v0=>asI .i64 v0 fun n1=>evC .lenSlice [b] fun v2=>asI .i64 v2 fun n3=>iteC (n1 != n3) (settle m m (.bool false)) (notL a (notL b (bindX (L25_0 a b 0 m) fun e4 l5 o6 m7=>exC (.exit 0) e4 (unn l5 (unbn o6 (settle m m7 (.bool true)))) (exC .ret e4 (unc l5 fun v8 l9=>asB v8 fun b10=>unn l9 (unbn o6 (settle m m7 (.bool b10)))) none))))
theorem F25_call a b m {res} (h:F25 a b m=some res):cw (.f 25) [a,b] m=some res:=call_den rfl rfl ((by kernel_rfl:denF ty25 pl25 i25 cw _ _=_).trans h)
def ty26:Tys:=tyG [(.one (.int .i64),[0,7,11,12,14,17,24]),(.one .str,[1,8,21]),(.one .sl,[4,20,29,30]),(.one .own,[5,28]),(.one .bool,[6,9,10,13,15,16,18,19,22,27]),(.tup [.agg [.int .i64,.int .i64,.sl,.any],.one .bool],[23,25]),(.agg [.int .i64,.int .i64,.sl,.any],[26])]
def x26_c0:XP:=[⟨.normal,[(19,.any)],[],[]⟩]
def pl26:Pl:=(.n none .z (.n none .z (.n none (.n none .z (.n none (.n none (.n (some x26_c0) .z .z) .z) .z)) .z)))
noncomputable def C26_c0 (op:Int) (m:IM):Option LR:=iteC (op==38) (some (.normal,[.bool true],[],m)) (some (.normal,[.bool (op==43)],[],m))
noncomputable def F26 (op:Int) (typ:List UInt8) (m:IM):Option (IV×IM):=callC cw (.f 41) [.int .i64 op,.str typ] [] m fun v0 m1=>asB v0 fun b2=>iteC (!b2) (settle m m1 .nilSlice) (callC cw (.f 39) [.int .i64 op] [] m1 fun v3 m4=>asI .i64 v3 fun n5=>iteC (n5==4) (bindX (C26_c0 op m4) fun e6 l7 o8 m9=>exC .normal e6 (unc l7 fun v10 l11=>asB v10 fun b12=>unn l11 (unbn o8 (iteC b12 (settle m m9 (.sl [.int .i64 5] 1)) (settle m m9 .nilSlice)))) none) (callC cw (.f 30) [.str typ] [] m4 fun v13 m14=>asB v13 fun b15=>iteC b15 (settle m m14 .nilSlice) (callC cw (.f 46) [.int .i64 op] [] m14 fun v16 m17=>asT v16 fun l18=>unc l18 fun v19 l20=>asA v19 fun l21=>uI .i64 l21 fun n24 l23=>uI .i64 l23 fun n27 l26=>unc l26 fun v28 l29=>unc l29 fun v30 l31=>unn l31 (unc l20 fun v32 l33=>asB v32 fun b34=>unn l33 (refC v28 (refC v30 (callC cw (.f 48) [v28] [] m17 fun v35 m36=>settle m m36 v35)))))))
theorem F26_call op typ m {res} (h:F26 op typ m=some res):cw (.f 26) [.int .i64 op,.str typ] m=some res:=call_den rfl rfl ((by kernel_rfl:denF ty26 pl26 i26 cw _ _=_).trans h)
def ty27:Tys:=tyG [(.one (.int .i64),[0,5,6,7,11,15,19,22,29,32,38]),(.one .str,[1,8,23,33]),(.one .sl,[4,44,48,51,55,59,62,66]),(.one .bool,[9,10,12,13,14,16,17,18,20,21,24,25,26,27,28,30,31,34,35,36,37,39,40,41,42,43,45,46,47,49,50,52,53,54,56,57,58,60,61,63,64,65])]
def x27_c0:XP:=[⟨.normal,[(0,.any),(37,.any)],[],[]⟩]
def x27_c1:XP:=[⟨.normal,[(38,.any),(39,.any)],[],[]⟩]
def x27_c2:XP:=[⟨.normal,[(38,.any),(45,.any)],[],[]⟩]
def x27_c3:XP:=[⟨.normal,[(38,.any),(52,.any)],[],[]⟩]
def x27_c4:XP:=[⟨.normal,[(38,.any),(56,.any)],[],[]⟩]
def x27_c5:XP:=[⟨.normal,[(63,.any)],[],[]⟩]
def pl27:Pl:=(.n none .z (.n none .z (.n none (.n (some x27_c0) .z .z) (.n none (.n none .z (.n none (.n (some x27_c1) .z (.n none .z (.n (some x27_c2) .z (.n none .z (.n none .z (.n none .z (.n (some x27_c3) .z (.n none .z (.n (some x27_c4) .z (.n none .z (.n none .z (.n none .z (.n (some x27_c5) .z .z))))))))))))) .z)) .z))))
noncomputable def C27_c0 (op:Int) (typ:List UInt8) (k:Int) (m:IM):Option LR:=callC cw (.f 32) [.str typ] [] m fun v0 m1=>asB v0 fun b2=>iteC b2 (iteC (k != 4) (some (.normal,[.int .i64 op,.bool true],[],m1)) (iteC (k==0) (some (.normal,[.int .i64 op,.bool true],[],m1)) (iteC (k==4) (callC cw (.f 42) [.int .i64 op,.str typ] [] m1 fun v3 m4=>asB v3 fun b5=>iteC (!b5) (some (.normal,[.int .i64 op,.bool true],[],m4)) (iteC (k != 4) (callC cw (.f 24) [.int .i64 op,.str typ] [] m4 fun v6 m7=>asB v6 fun b8=>some (.normal,[.int .i64 op,.bool !b8],[],m7)) (some (.normal,[.int .i64 op,.bool false],[],m4)))) (iteC (k != 4) (callC cw (.f 24) [.int .i64 op,.str typ] [] m1 fun v9 m10=>asB v9 fun b11=>some (.normal,[.int .i64 op,.bool !b11],[],m10)) (some (.normal,[.int .i64 op,.bool false],[],m1)))))) (iteC (k==0) (some (.normal,[.int .i64 op,.bool true],[],m1)) (iteC (k==4) (callC cw (.f 42) [.int .i64 op,.str typ] [] m1 fun v12 m13=>asB v12 fun b14=>iteC (!b14) (some (.normal,[.int .i64 op,.bool true],[],m13)) (iteC (k != 4) (callC cw (.f 24) [.int .i64 op,.str typ] [] m13 fun v15 m16=>asB v15 fun b17=>some (.normal,[.int .i64 op,.bool !b17],[],m16)) (some (.normal,[.int .i64 op,.bool false],[],m13)))) (iteC (k != 4) (callC cw (.f 24) [.int .i64 op,.str typ] [] m1 fun v18 m19=>asB v18 fun b20=>some (.normal,[.int .i64 op,.bool !b20],[],m19)) (some (.normal,[.int .i64 op,.bool false],[],m1)))))
noncomputable def C27_c1 (n:Int) (m:IM):Option LR:=iteC (n==6) (some (.normal,[.int .i64 n,.bool true],[],m)) (iteC (n==7) (some (.normal,[.int .i64 n,.bool true],[],m)) (iteC (n==8) (some (.normal,[.int .i64 n,.bool true],[],m)) (some (.normal,[.int .i64 n,.bool (n==30)],[],m))))
noncomputable def C27_c2 (n:Int) (m:IM):Option LR:=iteC (n==18) (some (.normal,[.int .i64 n,.bool true],[],m)) (some (.normal,[.int .i64 n,.bool (n==19)],[],m))
noncomputable def C27_c3 (n:Int) (m:IM):Option LR:=iteC (n==21) (some (.normal,[.int .i64 n,.bool true],[],m)) (some (.normal,[.int .i64 n,.bool (n==22)],[],m))
noncomputable def C27_c4 (n:Int) (m:IM):Option LR:=iteC (n==23) (some (.normal,[.int .i64 n,.bool true],[],m)) (some (.normal,[.int .i64 n,.bool (n==25)],[],m))
noncomputable def C27_c5 (n:Int) (m:IM):Option LR:=iteC (n==38) (some (.normal,[.bool true],[],m)) (some (.normal,[.bool (n==43)],[],m))
noncomputable def F27 (op:Int) (typ:List UInt8) (m:IM):Option (IV×IM):=callC cw (.f 40) [.int .i64 op] [] m fun v0 m1=>asI .i64 v0 fun n2=>bindX (C27_c0 op typ n2 m1) fun e3 l4 o5 m6=>exC .normal e3 (uI .i64 l4 fun n9 l8=>unc l8 fun v10 l11=>asB v10 fun b12=>unn l11 (unbn o5 (iteC b12 (settle m m6 .nilSlice) (bindX (C27_c1 n9 m6) fun e13 l14 o15 m16=>exC .normal e13 (uI .i64 l14 fun n19 l18=>unc l18 fun v20 l21=>asB v20 fun b22=>unn l21 (unbn o15 (iteC b22 (settle m m16 (.sl [.int .i64 0] 1)) (bindX (C27_c2 n19 m16) fun e23 l24 o25 m26=>exC .normal e23 (uI .i64 l24 fun n29 l28=>unc l28 fun v30 l31=>asB v30 fun b32=>unn l31 (unbn o25 (iteC b32 (settle m m26 (.sl [.int .i64 0,.int .i64 3] 2)) (iteC (n29==20) (settle m m26 (.sl [.int .i64 0,.int .i64 3,.int .i64 4] 3)) (bindX (C27_c3 n29 m26) fun e33 l34 o35 m36=>exC .normal e33 (uI .i64 l34 fun n39 l38=>unc l38 fun v40 l41=>asB v40 fun b42=>unn l41 (unbn o35 (iteC b42 (settle m m36 (.sl [.int .i64 3] 1)) (bindX (C27_c4 n39 m36) fun e43 l44 o45 m46=>exC .normal e43 (uI .i64 l44 fun n49 l48=>unc l48 fun v50 l51=>asB v50 fun b52=>unn l51 (unbn o45 (iteC b52 (settle m m46 (.sl [.int .i64 1] 1)) (iteC (n49==24) (settle m m46 (.sl [.int .i64 1,.int .i64 2] 2)) (bindX (C27_c5 n49 m46) fun e53 l54 o55 m56=>exC .normal e53 (unc l54 fun v57 l58=>asB v57 fun b59=>unn l58 (unbn o55 (iteC b59 (settle m m56 (.sl [.int .i64 5] 1)) (settle m m56 .nilSlice)))) none))))) none)))) none))))) none)))) none)))) none
theorem F27_call op typ m {res} (h:F27 op typ m=some res):cw (.f 27) [.int .i64 op,.str typ] m=some res:=call_den rfl rfl ((by kernel_rfl:denF ty27 pl27 i27 cw _ _=_).trans h)
def ty39:Tys:=tyG [(.one (.int .i64),[0,2,5,8,12,17]),(.one .own,[3,16]),(.one .bool,[4,6,7,9,10,15]),(.tup [.agg [.int .i64,.int .i64,.sl,.any],.one .bool],[11,13]),(.agg [.int .i64,.int .i64,.sl,.any],[14])]
def x39_c0:XP:=[⟨.normal,[(0,.any),(10,.any)],[],[]⟩]
def pl39:Pl:=(.n none .z (.n none (.n (some x39_c0) .z .z) .z))
noncomputable def C39_c0 (op:Int) (m:IM):Option LR:=iteC (decide (op≥38)) (some (.normal,[.int .i64 op,.bool (decide (op≤45))],[],m)) (some (.normal,[.int .i64 op,.bool false],[],m))
noncomputable def F39 (op:Int) (m:IM):Option (IV×IM):=bindX (C39_c0 op m) fun e0 l1 o2 m3=>exC .normal e0 (uI .i64 l1 fun n6 l5=>unc l5 fun v7 l8=>asB v7 fun b9=>unn l8 (unbn o2 (iteC b9 (settle m m3 (.int .i64 4)) (callC cw (.f 46) [.int .i64 n6] [] m3 fun v10 m11=>asT v10 fun l12=>unc l12 fun v13 l14=>asA v13 fun l15=>uI .i64 l15 fun n18 l17=>uI .i64 l17 fun n21 l20=>unc l20 fun v22 l23=>unc l23 fun v24 l25=>unn l25 (unc l14 fun v26 l27=>asB v26 fun b28=>unn l27 (refC v22 (refC v24 (settle m m11 (.int .i64 n21))))))))) none
theorem F39_call op m {res} (h:F39 op m=some res):cw (.f 39) [.int .i64 op] m=some res:=call_den rfl rfl ((by kernel_rfl:denF ty39 pl39 i39 cw _ _=_).trans h)
def ty40:Tys:=tyG [(.one (.int .i64),[0,2,4,7,11,15,18,23,26,30,33,38,41,45,48]),(.one .bool,[3,5,6,8,9,10,12,13,14,16,17,19,20,21,22,24,25,27,28,29,31,32,34,35,36,37,39,40,42,43,44,46,47,49,50])]
def x40_c0:XP:=[⟨.normal,[(0,.any),(3,.any)],[],[]⟩]
def x40_c1:XP:=[⟨.normal,[(0,.any),(22,.any)],[],[]⟩]
def x40_c2:XP:=[⟨.normal,[(0,.any),(37,.any)],[],[]⟩]
def x40_c3:XP:=[⟨.normal,[(44,.any)],[],[]⟩]
def pl40:Pl:=(.n none .z (.n none (.n none (.n (some x40_c0) .z (.n none .z (.n (some x40_c1) .z (.n none .z (.n (some x40_c2) .z (.n none .z (.n (some x40_c3) .z .z))))))) .z) .z))
noncomputable def C40_c0 (op:Int) (m:IM):Option LR:=iteC (op==29) (some (.normal,[.int .i64 op,.bool true],[],m)) (iteC (op==30) (some (.normal,[.int .i64 op,.bool true],[],m)) (iteC (op==31) (some (.normal,[.int .i64 op,.bool true],[],m)) (iteC (decide (op≥46)) (some (.normal,[.int .i64 op,.bool (decide (op≤49))],[],m)) (some (.normal,[.int .i64 op,.bool false],[],m)))))
noncomputable def C40_c1 (op:Int) (m:IM):Option LR:=iteC (decide (op≥15)) (iteC (decide (op≤17)) (some (.normal,[.int .i64 op,.bool true],[],m)) (iteC (decide (op≥34)) (some (.normal,[.int .i64 op,.bool (decide (op≤37))],[],m)) (some (.normal,[.int .i64 op,.bool false],[],m)))) (iteC (decide (op≥34)) (some (.normal,[.int .i64 op,.bool (decide (op≤37))],[],m)) (some (.normal,[.int .i64 op,.bool false],[],m)))
noncomputable def C40_c2 (op:Int) (m:IM):Option LR:=iteC (decide (op≥6)) (some (.normal,[.int .i64 op,.bool (decide (op≤33))],[],m)) (some (.normal,[.int .i64 op,.bool false],[],m))
noncomputable def C40_c3 (op:Int) (m:IM):Option LR:=iteC (decide (op≥38)) (some (.normal,[.bool (decide (op≤45))],[],m)) (some (.normal,[.bool false],[],m))
noncomputable def F40 (op:Int) (m:IM):Option (IV×IM):=bindX (C40_c0 op m) fun e0 l1 o2 m3=>exC .normal e0 (uI .i64 l1 fun n6 l5=>unc l5 fun v7 l8=>asB v7 fun b9=>unn l8 (unbn o2 (iteC b9 (settle m m3 (.int .i64 1)) (bindX (C40_c1 n6 m3) fun e10 l11 o12 m13=>exC .normal e10 (uI .i64 l11 fun n16 l15=>unc l15 fun v17 l18=>asB v17 fun b19=>unn l18 (unbn o12 (iteC b19 (settle m m13 (.int .i64 3)) (bindX (C40_c2 n16 m13) fun e20 l21 o22 m23=>exC .normal e20 (uI .i64 l21 fun n26 l25=>unc l25 fun v27 l28=>asB v27 fun b29=>unn l28 (unbn o22 (iteC b29 (settle m m23 (.int .i64 2)) (bindX (C40_c3 n26 m23) fun e30 l31 o32 m33=>exC .normal e30 (unc l31 fun v34 l35=>asB v34 fun b36=>unn l35 (unbn o32 (iteC b36 (settle m m33 (.int .i64 4)) (settle m m33 (.int .i64 0))))) none)))) none)))) none)))) none
theorem F40_call op m {res} (h:F40 op m=some res):cw (.f 40) [.int .i64 op] m=some res:=call_den rfl rfl ((by kernel_rfl:denF ty40 pl40 i40 cw _ _=_).trans h)
def ty41:Tys:=tyG [(.one (.int .i64),[0,5,6,8,11]),(.one .str,[1,9,12]),(.one .bool,[4,7,10,13])]
def pl41:Pl:=.z
noncomputable def F41 (op:Int) (typ:List UInt8) (m:IM):Option (IV×IM):=callC cw (.f 39) [.int .i64 op] [] m fun v0 m1=>asI .i64 v0 fun n2=>iteC (n2==4) (callC cw (.f 60) [.int .i64 op,.str typ] [] m1 fun v3 m4=>asB v3 fun b5=>settle m m4 (.bool b5)) (callC cw (.f 23) [.int .i64 op,.str typ] [] m1 fun v6 m7=>asB v6 fun b8=>settle m m7 (.bool b8))
theorem F41_call op typ m {res} (h:F41 op typ m=some res):cw (.f 41) [.int .i64 op,.str typ] m=some res:=call_den rfl rfl ((by kernel_rfl:denF ty41 pl41 i41 cw _ _=_).trans h)
def ty42:Tys:=tyG [(.one (.int .i64),[0,5]),(.one .str,[1,9,13,16,19]),(.one .bool,[4,6,7,8,10,11,12,14,15,17,18,20])]
def x42_c0:XP:=[⟨.normal,[(1,.any),(5,.any),(6,.any)],[],[]⟩]
def x42_c1:XP:=[⟨.normal,[(4,.any)],[],[]⟩]
def pl42:Pl:=(.n none .z (.n none (.n none .z (.n none (.n (some x42_c0) .z (.n none .z (.n none .z (.n none (.n (some x42_c1) .z .z) .z)))) .z)) .z))
noncomputable def C42_c0 (typ:List UInt8) (n:Int) (m:IM):Option LR:=iteC (n==42) (some (.normal,[.str typ,.int .i64 n,.bool true],[],m)) (some (.normal,[.str typ,.int .i64 n,.bool (n==45)],[],m))
noncomputable def C42_c1 (typ:List UInt8) (m:IM):Option LR:=callC cw (.f 31) [.str typ] [] m fun v0 m1=>asB v0 fun b2=>iteC b2 (some (.normal,[.bool true],[],m1)) (callC cw (.f 32) [.str typ] [] m1 fun v3 m4=>asB v3 fun b5=>some (.normal,[.bool b5],[],m4))
noncomputable def F42 (op:Int) (typ:List UInt8) (m:IM):Option (IV×IM):=bindX (C42_c0 typ op m) fun e0 l1 o2 m3=>exC .normal e0 (unc l1 fun v4 l5=>asS v4 fun s6=>uI .i64 l5 fun n9 l8=>unc l8 fun v10 l11=>asB v10 fun b12=>unn l11 (unbn o2 (iteC b12 (callC cw (.f 32) [.str s6] [] m3 fun v13 m14=>asB v13 fun b15=>settle m m14 (.bool b15)) (iteC (n9==41) (bindX (C42_c1 s6 m3) fun e16 l17 o18 m19=>exC .normal e16 (unc l17 fun v20 l21=>asB v20 fun b22=>unn l21 (unbn o18 (settle m m19 (.bool b22)))) none) (callC cw (.f 31) [.str s6] [] m3 fun v23 m24=>asB v23 fun b25=>settle m m24 (.bool b25)))))) none
theorem F42_call op typ m {res} (h:F42 op typ m=some res):cw (.f 42) [.int .i64 op,.str typ] m=some res:=call_den rfl rfl ((by kernel_rfl:denF ty42 pl42 i42 cw _ _=_).trans h)
def ty46:Tys:=tyG [(.one (.int .i64),[0,5,9,10,14]),(.one .own,[2]),(.one .bool,[3,11]),(.one .sl,[4,6,7,13]),(.agg [.int .i64,.int .i64,.sl,.any],[12,16])]
def pl46:Pl:=.z
noncomputable def F46 (op:Int) (m:IM):Option (IV×IM):=callC cw (.f 63) [] [] m fun v0 m1=>callC cw (.f 64) [v0,.func 65 [] [.pI [.int .i64 op] 0]] [] m1 fun v2 m3=>asI .i64 v2 fun n4=>iteC (decide (n4<0)) (settle m m3 (.tup [.agg [.int .i64 0,.int .i64 0,.nilSlice,.nilFunc],.bool false])) (evC (.indexS 4) [v0,.int .i64 n4] fun v5=>ldP m3 true 4 v5 fun v6=>asA v6 fun l7=>uI .i64 l7 fun n10 l9=>uI .i64 l9 fun n13 l12=>unc l12 fun v14 l15=>unc l15 fun v16 l17=>unn l17 (refC v14 (refC v16 (settle m m3 (.tup [.agg [.int .i64 n10,.int .i64 n13,v14,v16],.bool true])))))
theorem F46_call op m {res} (h:F46 op m=some res):cw (.f 46) [.int .i64 op] m=some res:=call_den rfl rfl ((by kernel_rfl:denF ty46 pl46 i46 cw _ _=_).trans h)
def ty47:Tys:=tyG [(.one .sl,[0,5]),(.one (.int .i64),[1,6,7]),(.one .bool,[4,8])]
def pl47:Pl:=.z
noncomputable def F47 (s:IV) (v:Int) (m:IM):Option (IV×IM):=callC cw (.f 66) [s,.int .i64 v] [] m fun v0 m1=>asI .i64 v0 fun n2=>settle m m1 (.bool (decide (n2≥0)))
theorem F47_call s v m {res} (h:F47 s v m=some res):cw (.f 47) [s,.int .i64 v] m=some res:=call_den rfl rfl ((by kernel_rfl:denF ty47 pl47 i47 cw _ _=_).trans h)
def ty48:Tys:=tyG [(.one .sl,[0,2,3,5,6,7]),(.one .bool,[4])]
def pl48:Pl:=.z
noncomputable def F48 (s:IV) (m:IM):Option (IV×IM):=evC (.eq false .slice) [s,.nilSlice] fun v0=>asB v0 fun b1=>iteC b1 (settle m m .nilSlice) (srcP m 1 s fun l2 k3=>plainC l2 (grd (Nat.beq (List.length l2) (k3*1)) (grd (decide ((0+k3)*8≤maxLenI∧List.length (repl [.int .i64 0] 0)=0*1)) (settle m m (.sl l2 (0+k3))))))
theorem F48_call s m {res} (h:F48 s m=some res):cw (.f 48) [s] m=some res:=call_den rfl rfl ((by kernel_rfl:denF ty48 pl48 i48 cw _ _=_).trans h)
def ty60:Tys:=tyG [(.one (.int .i64),[0,12]),(.one .str,[1,8,16,22]),(.one .bool,[4,6,11,13,14,15,17,18,19,20,21,23,24,25]),(.one .own,[5]),(.tup [.agg [.int .i64,.bool],.one .bool],[7,9]),(.agg [.int .i64,.bool],[10])]
def x60_c0:XP:=[⟨.normal,[(1,.any),(6,.any),(12,.any),(13,.any)],[.dead 0],[]⟩]
def x60_c1:XP:=[⟨.normal,[(4,.any)],[.dead 0],[]⟩]
def pl60:Pl:=(.n none .z (.n none .z (.n none (.n none .z (.n none (.n (some x60_c0) .z (.n none .z (.n none .z (.n none (.n (some x60_c1) .z .z) .z)))) .z)) .z)))
noncomputable def C60_c0 (typ:List UInt8) (is:Bool) (n n1:Int) (b:Bool) (m:IM):Option LR:=iteC (n==42) (some (.normal,[.str typ,.bool is,.int .i64 n,.bool true],[],m)) (some (.normal,[.str typ,.bool is,.int .i64 n,.bool (n==45)],[],m))
noncomputable def C60_c1 (typ:List UInt8) (is:Bool) (m:IM):Option LR:=iteC is (some (.normal,[.bool true],[],m)) (callC cw (.f 30) [.str typ] [] m fun v0 m1=>asB v0 fun b2=>some (.normal,[.bool b2],[],m1))
noncomputable def F60 (op:Int) (typ:List UInt8) (m:IM):Option (IV×IM):=callC cw (.f 28) [.str typ] [] m fun v0 m1=>asT v0 fun l2=>unc l2 fun v3 l4=>asA v3 fun l5=>uI .i64 l5 fun n8 l7=>unc l7 fun v9 l10=>asB v9 fun b11=>unn l10 (unc l4 fun v12 l13=>asB v12 fun b14=>unn l13 (bindX (C60_c0 typ b14 op n8 b11 m1) fun e15 l16 o17 m18=>exC .normal e15 (unc l16 fun v19 l20=>asS v19 fun s21=>unc l20 fun v22 l23=>asB v22 fun b24=>uI .i64 l23 fun n27 l26=>unc l26 fun v28 l29=>asB v28 fun b30=>unn l29 (unbn o17 (iteC b30 (callC cw (.f 30) [.str s21] [] m18 fun v31 m32=>asB v31 fun b33=>settle m m32 (.bool b33)) (iteC (n27==41) (bindX (C60_c1 s21 b24 m18) fun e34 l35 o36 m37=>exC .normal e34 (unc l35 fun v38 l39=>asB v38 fun b40=>unn l39 (unbn o36 (settle m m37 (.bool b40)))) none) (settle m m18 (.bool b24)))))) none))
theorem F60_call op typ m {res} (h:F60 op typ m=some res):cw (.f 60) [.int .i64 op,.str typ] m=some res:=call_den rfl rfl ((by kernel_rfl:denF ty60 pl60 i60 cw _ _=_).trans h)
def ty64:Tys:=tyG [(.one .sl,[0,6,12]),(.one (.int .i64),[4,5,7,8,10,13,17,18]),(.agg [.int .i64,.int .i64,.sl,.any],[15]),(.one .bool,[16])]
def x64_0:XP:=[⟨(.exit 0),[],[],[]⟩,⟨.ret,[(4,unk)],[],[]⟩]
def p64_0:Pl:=.z
def pl64:Pl:=(.n none .z (.n none (.n none .z (.n none (.n (some x64_0) p64_0 .z) .z)) .z))
noncomputable def f64_0:St→Option (St⊕LR):=fun s=>l64_0.den ty64 cw (St⊕LR) p64_0 s (endS ty64 h64_0 x64_0)
noncomputable def L64_0 (s f:IV) (n n1:Int) (m:IM):Option LR:=iter f64_0 (St.mk [(0,s,.any),(1,f,.any),(7,.int .i64 n,.any),(8,.int .i64 n1,.any)] [] [] m)
noncomputable def B64_0 (s f:IV) (n n1:Int) (m:IM):Option (St⊕LR):=iteC (decide (n1<n)) (evC (.indexS 4) [s,.int .i64 n1] fun v0=>ldP m true 4 v0 fun v1=>asA v1 fun l2=>uI .i64 l2 fun n5 l4=>uI .i64 l4 fun n8 l7=>unc l7 fun v9 l10=>unc l10 fun v11 l12=>unn l12 (callVC cw f [.agg [.int .i64 n5,.int .i64 n8,v9,v11]] [] m fun v13 m14=>asB v13 fun b15=>iteC b15 (some (.inr (.ret,[.int .i64 n1],[],m14))) (notL s (keepC f [] (some (.inl (St.mk [(0,s,.any),(1,f,.any),(7,.int .i64 n,.any),(8,.int .i64 (IntKind.wrap .i64 (n1+1)),.any)] [] [] m14))))))) (some (.inr (.exit 0,[],[],m)))
theorem L64_0_eq s f n n1 m:L64_0 s f n n1 m=nxt f64_0 (B64_0 s f n n1 m):=(iter_nxt _ _).trans (congrArg (nxt _) (by kernel_rfl))
noncomputable def F64 (s f:IV) (m:IM):Option (IV×IM):=evC .lenSlice [s] fun v0=>asI .i64 v0 fun n1=>notL s (keepC f [] (bindX (L64_0 s f n1 0 m) fun e2 l3 o4 m5=>exC (.exit 0) e2 (unn l3 (unbn o4 (settle m m5 (.int .i64 (-1))))) (exC .ret e2 (uI .i64 l3 fun n8 l7=>unn l7 (unbn o4 (settle m m5 (.int .i64 n8)))) none)))
theorem F64_call s f m {res} (h:F64 s f m=some res):cw (.f 64) [s,f] m=some res:=call_den rfl rfl ((by kernel_rfl:denF ty64 pl64 i64 cw _ _=_).trans h)
def ty65:Tys:=tyG [(.agg [.int .i64,.int .i64,.sl,.any],[0]),(.one .own,[2,4]),(.one .bool,[3,7]),(.one (.int .i64),[5,6])]
def pl65:Pl:=.z
noncomputable def F65 (r r1:Int) (r2 r3 v:IV) (m:IM):Option (IV×IM):=refC r2 (refC r3 (ldP m false 1 v fun v0=>asI .i64 v0 fun n1=>settle m m (.bool (r==n1))))
theorem F65_call r r1 r2 r3 v m {res} (h:F65 r r1 r2 r3 v m=some res):cw (.f 65) [.agg [.int .i64 r,.int .i64 r1,r2,r3],v] m=some res:=call_den rfl rfl ((by kernel_rfl:denF ty65 pl65 i65 cw _ _=_).trans h)
def ty66:Tys:=tyG [(.one .sl,[0,6,12]),(.one (.int .i64),[1,4,5,7,8,10,11,13,15,17,18]),(.one .bool,[16])]
def x66_0:XP:=[⟨(.exit 0),[],[],[]⟩,⟨.ret,[(4,unk)],[],[]⟩]
def p66_0:Pl:=.z
def pl66:Pl:=(.n none .z (.n none (.n none .z (.n none (.n (some x66_0) p66_0 .z) .z)) .z))
noncomputable def f66_0:St→Option (St⊕LR):=fun s=>l66_0.den ty66 cw (St⊕LR) p66_0 s (endS ty66 h66_0 x66_0)
noncomputable def L66_0 (s:IV) (v n n1:Int) (m:IM):Option LR:=iter f66_0 (St.mk [(0,s,.any),(1,.int .i64 v,.any),(7,.int .i64 n,.any),(8,.int .i64 n1,.any)] [] [] m)
noncomputable def B66_0 (s:IV) (v n n1:Int) (m:IM):Option (St⊕LR):=iteC (decide (n1<n)) (evC (.indexS 1) [s,.int .i64 n1] fun v0=>ldP m false 1 v0 fun v1=>asI .i64 v1 fun n2=>iteC (v==n2) (some (.inr (.ret,[.int .i64 n1],[],m))) (notL s (some (.inl (St.mk [(0,s,.any),(1,.int .i64 v,.any),(7,.int .i64 n,.any),(8,.int .i64 (IntKind.wrap .i64 (n1+1)),.any)] [] [] m))))) (some (.inr (.exit 0,[],[],m)))
theorem L66_0_eq s v n n1 m:L66_0 s v n n1 m=nxt f66_0 (B66_0 s v n n1 m):=(iter_nxt _ _).trans (congrArg (nxt _) (by kernel_rfl))
noncomputable def F66 (s:IV) (v:Int) (m:IM):Option (IV×IM):=evC .lenSlice [s] fun v0=>asI .i64 v0 fun n1=>notL s (bindX (L66_0 s v n1 0 m) fun e2 l3 o4 m5=>exC (.exit 0) e2 (unn l3 (unbn o4 (settle m m5 (.int .i64 (-1))))) (exC .ret e2 (uI .i64 l3 fun n8 l7=>unn l7 (unbn o4 (settle m m5 (.int .i64 n8)))) none))
theorem F66_call s v m {res} (h:F66 s v m=some res):cw (.f 66) [s,.int .i64 v] m=some res:=call_den rfl rfl ((by kernel_rfl:denF ty66 pl66 i66 cw _ _=_).trans h)
def ty4:Tys:=tyG [(.one (.int .i64),[0,2,7,8,9,10,12,14,15,16,17,18,19,20,21,22,24,26,28,30,31,32,41,42,46,47,49,52,54,57,61,62,66,67,69,71,72,74,76,77,79,83,85,89,91,94,96,99,101,103,106,107,111,112,121,122,126,127,131,132,136,137,141,142,151,152,161,162,165,170,171,172,173,176,179,182,187,190]),(.one .str,[1,11,13,23,25,27,29,33,39,44,51,56,59,64,80,82,86,88,93,98,100,102,116,117,146,147,156,157,168,180,183,188,191]),(.one .bool,[6,35,36,37,104,105,108,109,110,113,114,115,118,119,120,123,124,125,128,129,130,133,134,135,138,139,140,143,144,145,148,149,150,153,154,155,158,159,160,163,164,166,174,175,177,178,181,184,185,186,193,194,195,196,197]),(.one .sl,[34,189,192]),(.tup [.one (.int .i64),.one (.int .i64)],[38,40,43,45,58,60,63,65,68,70,73,75,167,169]),(.tup [.one .str,.one (.int .i64)],[48,50,53,55,78,81,84,87,90,92,95,97])]
def x4_c0:XP:=[⟨.normal,[(0,.any),(1,.any),(11,.any),(12,.any),(164,.any)],[],[]⟩]
def x4_c1:XP:=[⟨.normal,[(0,.any),(1,.any),(178,.any)],[],[]⟩]
def x4_c2:XP:=[⟨.ret,[(6,unk)],[],[]⟩,⟨.normal,[(0,.any),(1,.any)],[],[]⟩]
def x4_c3:XP:=[⟨.normal,[(6,.any)],[],[]⟩]
def pl4:Pl:=(.n none .z (.n none .z (.n none .z (.n none .z (.n none .z (.n none .z (.n none .z (.n none .z (.n none .z (.n none .z (.n none .z (.n none .z (.n none .z (.n none .z (.n none (.n (some x4_c0) .z .z) (.n (some x4_c2) (.n none .z (.n none (.n none .z (.n (some x4_c1) .z .z)) .z)) (.n (some x4_c3) .z .z)))))))))))))))))
noncomputable def C4_c0 (op:Int) (typ:List UInt8) (n e:Int) (n1 f:Int) (s:List UInt8) (e2:Int) (t:List UInt8) (f2 k:Int) (e3 l:Int) (f3 a:Int) (e4 b f4:Int) (r:List UInt8) (e5:Int) (q:List UInt8) (f5:Int) (x:List UInt8) (e6:Int) (y:List UInt8) (f6:Int) (m:IM):Option LR:=callC cw (.f 21) [.str typ] [] m fun v0 m1=>asI .i64 v0 fun n2=>callC cw (.f 22) [.str typ] [] m1 fun v3 m4=>asI .i64 v3 fun n5=>iteC (n2 != n5) (some (.normal,[.int .i64 op,.str typ,.str s,.int .i64 e2,.bool true],[],m4)) (iteC (n != n1) (some (.normal,[.int .i64 op,.str typ,.str s,.int .i64 e2,.bool true],[],m4)) (iteC (e != f) (some (.normal,[.int .i64 op,.str typ,.str s,.int .i64 e2,.bool true],[],m4)) (iteC (!s==t) (some (.normal,[.int .i64 op,.str typ,.str s,.int .i64 e2,.bool true],[],m4)) (iteC (e2 != f2) (some (.normal,[.int .i64 op,.str typ,.str s,.int .i64 e2,.bool true],[],m4)) (iteC (k != l) (some (.normal,[.int .i64 op,.str typ,.str s,.int .i64 e2,.bool true],[],m4)) (iteC (e3 != f3) (some (.normal,[.int .i64 op,.str typ,.str s,.int .i64 e2,.bool true],[],m4)) (iteC (a != b) (some (.normal,[.int .i64 op,.str typ,.str s,.int .i64 e2,.bool true],[],m4)) (iteC (e4 != f4) (some (.normal,[.int .i64 op,.str typ,.str s,.int .i64 e2,.bool true],[],m4)) (iteC (!r==q) (some (.normal,[.int .i64 op,.str typ,.str s,.int .i64 e2,.bool true],[],m4)) (iteC (e5 != f5) (some (.normal,[.int .i64 op,.str typ,.str s,.int .i64 e2,.bool true],[],m4)) (iteC (!x==y) (some (.normal,[.int .i64 op,.str typ,.str s,.int .i64 e2,.bool true],[],m4)) (some (.normal,[.int .i64 op,.str typ,.str s,.int .i64 e2,.bool (e6 != f6)],[],m4)))))))))))))
noncomputable def C4_c1 (op:Int) (typ:List UInt8) (back e:Int) (m:IM):Option LR:=iteC (back != op) (some (.normal,[.int .i64 op,.str typ,.bool true],[],m)) (some (.normal,[.int .i64 op,.str typ,.bool (e != 0)],[],m))
noncomputable def C4_c2 (op:Int) (typ s:List UInt8) (e2:Int) (m:IM):Option LR:=iteC (e2==0) (callC cw (.f 13) [.str s] [] m fun v0 m1=>asT v0 fun l2=>uI .i64 l2 fun n5 l4=>uI .i64 l4 fun n8 l7=>unn l7 (bindX (C4_c1 op typ n5 n8 m1) fun e9 l10 o11 m12=>exC .normal e9 (uI .i64 l10 fun n15 l14=>unc l14 fun v16 l17=>asS v16 fun s18=>unc l17 fun v19 l20=>asB v19 fun b21=>unn l20 (unbn o11 (iteC b21 (some (.ret,[.bool false],[],m12)) (some (.normal,[.int .i64 n15,.str s18],[],m12))))) none)) (some (.normal,[.int .i64 op,.str typ],[],m))
noncomputable def C4_c3 (op:Int) (typ:List UInt8) (m:IM):Option LR:=callC cw (.f 23) [.int .i64 op,.str typ] [] m fun v0 m1=>asB v0 fun b2=>callC cw (.f 24) [.int .i64 op,.str typ] [] m1 fun v3 m4=>asB v3 fun b5=>iteC (b2==b5) (callC cw (.f 26) [.int .i64 op,.str typ] [] m4 fun v6 m7=>callC cw (.f 27) [.int .i64 op,.str typ] [] m7 fun v8 m9=>callC cw (.f 25) [v6,v8] [] m9 fun v10 m11=>asB v10 fun b12=>iteC b12 (callC cw (.f 8) [] [] m11 fun v13 m14=>asB v13 fun b15=>some (.normal,[.bool b15],[],m14)) (some (.normal,[.bool false],[],m11))) (some (.normal,[.bool false],[],m4))
noncomputable def F4 (op:Int) (typ:List UInt8) (kind:Int) (m:IM):Option (IV×IM):=callC cw (.f 5) [.sl [.str typ] 1] [] m fun v0 m1=>asB v0 fun b2=>iteC (!b2) (callC cw (.f 8) [] [] m1 fun v3 m4=>asB v3 fun b5=>settle m m4 (.bool b5)) (callC cw (.f 9) [.str typ] [] m1 fun v6 m7=>asT v6 fun l8=>uI .i64 l8 fun n11 l10=>uI .i64 l10 fun n14 l13=>unn l13 (callC cw (.f 10) [.str typ] [] m7 fun v15 m16=>asT v15 fun l17=>uI .i64 l17 fun n20 l19=>uI .i64 l19 fun n23 l22=>unn l22 (callC cw (.f 11) [.int .i64 op] [] m16 fun v24 m25=>asT v24 fun l26=>unc l26 fun v27 l28=>asS v27 fun s29=>uI .i64 l28 fun n32 l31=>unn l31 (callC cw (.f 12) [.int .i64 op] [] m25 fun v33 m34=>asT v33 fun l35=>unc l35 fun v36 l37=>asS v36 fun s38=>uI .i64 l37 fun n41 l40=>unn l40 (callC cw (.f 13) [.str typ] [] m34 fun v42 m43=>asT v42 fun l44=>uI .i64 l44 fun n47 l46=>uI .i64 l46 fun n50 l49=>unn l49 (callC cw (.f 14) [.str typ] [] m43 fun v51 m52=>asT v51 fun l53=>uI .i64 l53 fun n56 l55=>uI .i64 l55 fun n59 l58=>unn l58 (callC cw (.f 15) [.int .i64 op] [] m52 fun v60 m61=>asT v60 fun l62=>uI .i64 l62 fun n65 l64=>uI .i64 l64 fun n68 l67=>unn l67 (callC cw (.f 16) [.int .i64 op] [] m61 fun v69 m70=>asT v69 fun l71=>uI .i64 l71 fun n74 l73=>uI .i64 l73 fun n77 l76=>unn l76 (callC cw (.f 17) [.int .i64 op,.str typ] [] m70 fun v78 m79=>asT v78 fun l80=>unc l80 fun v81 l82=>asS v81 fun s83=>uI .i64 l82 fun n86 l85=>unn l85 (callC cw (.f 18) [.int .i64 op,.str typ] [] m79 fun v87 m88=>asT v87 fun l89=>unc l89 fun v90 l91=>asS v90 fun s92=>uI .i64 l91 fun n95 l94=>unn l94 (callC cw (.f 19) [.int .i64 kind] [] m88 fun v96 m97=>asT v96 fun l98=>unc l98 fun v99 l100=>asS v99 fun s101=>uI .i64 l100 fun n104 l103=>unn l103 (callC cw (.f 20) [.int .i64 kind] [] m97 fun v105 m106=>asT v105 fun l107=>unc l107 fun v108 l109=>asS v108 fun s110=>uI .i64 l109 fun n113 l112=>unn l112 (bindX (C4_c0 op typ n11 n14 n20 n23 s29 n32 s38 n41 n47 n50 n56 n59 n65 n68 n74 n77 s83 n86 s92 n95 s101 n104 s110 n113 m106) fun e114 l115 o116 m117=>exC .normal e114 (uI .i64 l115 fun n120 l119=>unc l119 fun v121 l122=>asS v121 fun s123=>unc l122 fun v124 l125=>asS v124 fun s126=>uI .i64 l125 fun n129 l128=>unc l128 fun v130 l131=>asB v130 fun b132=>unn l131 (unbn o116 (iteC b132 (settle m m117 (.bool false)) (bindX (C4_c2 n120 s123 s126 n129 m117) fun e133 l134 o135 m136=>exC .ret e133 (unc l134 fun v137 l138=>asB v137 fun b139=>unn l138 (unbn o135 (settle m m136 (.bool b139)))) (exC .normal e133 (uI .i64 l134 fun n142 l141=>unc l141 fun v143 l144=>asS v143 fun s145=>unn l144 (unbn o135 (bindX (C4_c3 n142 s145 m136) fun e146 l147 o148 m149=>exC .normal e146 (unc l147 fun v150 l151=>asB v150 fun b152=>unn l151 (unbn o148 (settle m m149 (.bool b152)))) none))) none))))) none)))))))))))))
theorem F4_call op typ kind m {res} (h:F4 op typ kind m=some res):cw (.f 4) [.int .i64 op,.str typ,.int .i64 kind] m=some res:=call_den rfl rfl ((by kernel_rfl:denF ty4 pl4 i4 cw _ _=_).trans h)
def ty37:Tys:=tyG []
def pl37:Pl:=.z
noncomputable def F37 (m:IM):Option (IV×IM):=settle m m (.func 59 [] [])
theorem F37_call m {res} (h:F37 m=some res):cw (.f 37) [] m=some res:=call_den rfl rfl ((by kernel_rfl:denF ty37 pl37 i37 cw _ _=_).trans h)
def ty59:Tys:=tyG [(.one (.int .i64),[2,5,6,8,12,16]),(.one .str,[3,10,13]),(.one .sl,[4]),(.one .bool,[14,15])]
def x59_0:XP:=[⟨(.exit 0),[],[],[]⟩,⟨.ret,[],[],[]⟩]
def p59_0:Pl:=.z
def pl59:Pl:=(.n none .z (.n none (.n (some x59_0) p59_0 .z) .z))
noncomputable def f59_0:St→Option (St⊕LR):=fun s=>l59_0.den ty59 cw (St⊕LR) p59_0 s (endS ty59 h59_0 x59_0)
noncomputable def L59_0 (yield v:IV) (n n1:Int) (m:IM):Option LR:=iter f59_0 (St.mk [(0,yield,.any),(4,v,.any),(5,.int .i64 n,.any),(6,.int .i64 n1,.any)] [] [] m)
noncomputable def B59_0 (yield v:IV) (n n1:Int) (m:IM):Option (St⊕LR):=iteC (decide (n1<n)) (evC (.indexS 1) [v,.int .i64 n1] fun v0=>ldP m false 1 v0 fun v1=>asS v1 fun s2=>callVC cw yield [.int .i64 n1,.str s2] [] m fun v3 m4=>asB v3 fun b5=>iteC (!b5) (some (.inr (.ret,[],[],m4))) (keepC yield [] (notL v (some (.inl (St.mk [(0,yield,.any),(4,v,.any),(5,.int .i64 n,.any),(6,.int .i64 (IntKind.wrap .i64 (n1+1)),.any)] [] [] m4)))))) (some (.inr (.exit 0,[],[],m)))
theorem L59_0_eq yield v n n1 m:L59_0 yield v n n1 m=nxt f59_0 (B59_0 yield v n n1 m):=(iter_nxt _ _).trans (congrArg (nxt _) (by kernel_rfl))
noncomputable def F59 (yield:IV) (m:IM):Option (IV×IM):=callC cw (.f 43)
 [.str
   (have y :=
    have y :=
     have y :=
      have y :=
       have y :=
        have y:=[101,32,112,97,110,105,99];
        97::99::104::97::98::108::y;
       have y:=114::110::32::117::110::114::101::y;
       104::32::114::101::116::117::y;
      have y :=
       have y:=104::32::115::119::105::116::99::y;
       32::98::114::97::110::99::y;
      have y:=101::116::32::106::117::109::112::y;
      101::32::102::111::114::103::y;
     have y :=
      have y :=
       have y:=101::115::32::116::114::97::99::y;
       111::117::116::98::121::116::y;
      have y:=109::101::32::111::117::116::32::y;
      108::32::97::115::115::117::y;
     have y :=
      have y:=114::101::101::32::99::97::108::y;
      108::108::111::99::32::102::y;
     have y:=114::97::115::101::32::97::y;
     99::111::112::121::32::101::y;
    have y :=
     have y :=
      have y :=
       have y:=32::105::110::100::101::120::32::y;
       111::102::102::115::101::116::y;
      have y:=32::115::116::111::114::101::32::y;
      112::32::108::111::97::100::y;
     have y :=
      have y:=98::121::116::101::115::119::97::y;
      122::32::99::116::122::32::y;
     have y:=117::110::116::32::99::108::y;
     32::112::111::112::99::111::y;
    have y :=
     have y :=
      have y:=115::32::114::111::117::110::100::y;
      32::116::111::102::105::116::y;
     have y:=116::32::116::111::105::110::116::y;
     116::111::102::108::111::97::y;
    have y :=
     have y:=99::32::98::105::116::115::32::y;
     115::32::116::114::117::110::y;
    have y:=105::116::32::102::105::116::y;
    116::32::108::101::32::102::y;
   have y :=
    have y :=
     have y :=
      have y :=
       have y:=101::113::32::110::101::32::108::y;
       110::32::109::97::120::32::y;
      have y:=119::114::97::112::32::109::105::y;
      101::103::32::110::101::103::y;
     have y :=
      have y:=114::32::110::111::116::32::110::y;
      32::111::114::32::120::111::y;
     have y:=104::114::32::97::110::100::y;
     120::97::99::116::32::115::y;
    have y :=
     have y :=
      have y:=104::108::32::115::104::108::101::y;
      32::109::111::100::32::115::y;
     have y:=97::99::116::32::114::101::109::y;
     32::100::105::118::101::120::y;
    have y :=
     have y:=105::118::102::108::111::111::114::y;
     32::100::105::118::32::100::y;
    have y:=117::108::111::118::101::114::y;
    111::118::101::114::32::109::y;
   have y :=
    have y :=
     have y :=
      have y:=118::101::114::32::115::117::98::y;
      116::32::97::100::100::111::y;
     have y:=116::32::109::117::108::115::97::y;
     32::115::117::98::115::97::y;
    have y :=
     have y:=32::97::100::100::115::97::116::y;
     117::108::119::114::97::112::y;
    have y:=119::114::97::112::32::109::y;
    97::112::32::115::117::98::y;
   have y :=
    have y :=
     have y:=108::32::97::100::100::119::114::y;
     115::117::98::32::109::117::y;
    have y:=118::101::32::97::100::100::32::y;
    108::111::116::32::109::111::y;
   have y :=
    have y:=108::111::98::97::108::32::115::y;
    110::117::108::108::32::103::y;
   have y:=117::110::100::101::102::32::y;
   99::111::110::115::116::32::y)]
 [] m fun v0 m1=>evC .lenSlice [v0] fun v2=>asI .i64 v2 fun n3=>keepC yield [] (notL v0 (bindX (L59_0 yield v0 n3 0 m1) fun e4 l5 o6 m7=>exC (.exit 0) e4 (unn l5 (unbn o6 (settle m m7 (.tup [])))) (exC .ret e4 (unn l5 (unbn o6 (settle m m7 (.tup [])))) none)))
theorem F59_call yield m {res} (h:F59 yield m=some res):cw (.f 59) [yield] m=some res:=call_den rfl rfl ((by kernel_rfl:denF ty59 pl59 i59 cw _ _=_).trans h)
end
end Go.Idl
