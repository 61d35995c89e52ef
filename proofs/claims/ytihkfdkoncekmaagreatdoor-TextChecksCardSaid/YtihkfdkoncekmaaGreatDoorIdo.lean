/- This text proves for single functions of the program what their runs come to, as plain formulas; it has no conditions. -/
import Derived.Test.YtihkfdkoncekmaaGreatDoorIdn
set_option linter.unusedSimpArgs false
set_option linter.unusedVariables false
namespace Go.Idl
set_option maxRecDepth 100000
theorem p4:ae 4=none:=by rfl
theorem f25:tab.fns 25=some i25:=by rfl
theorem p25:ae 25=none:=by rfl
def NP:Tys:=tyG [(.agg [.int .i64,.str,.sl,.sl],[0,4]),(.one .own,[1]),(.one (.int .i64),[2,5]),(.one .ptr,[3])]
def Oi:Pl:=.z
noncomputable def F25 (v:Int) (v1:List UInt8) (v2 v3:IV) (m:IM):Option (IV×IM):=dm v2 (dm v3 (stP (bR m (.cells [.int .i64 0] [.any])) (.pB (IM.size m) 0) [.int .i64 2000] .any fun m0=>bc cw (.f 54) [.agg [.int .i64 v,.str v1,v2,v3],.int .i64 1,.pB (IM.size m) 0] [] m0 fun v1 m2=>asI .i64 v1 fun n3=>settle m m2 (.int .i64 n3)))
theorem I7 (v:Int) (v1:List UInt8) (v2 v3:IV) (m:IM):eS NP Oi i25 cw [.agg [.int .i64 v,.str v1,v2,v3]] m=F25 v v1 v2 v3 m:=by kernel_rfl
theorem Dh (v:Int) (v1:List UInt8) (v2 v3:IV) (m:IM) {res:IV×IM}(h:F25 v v1 v2 v3 m=some res):cw (.f 25) [.agg [.int .i64 v,.str v1,v2,v3]] m=some res:=bb p25 f25 ((I7 v v1 v2 v3 m).trans h)
theorem f26:tab.fns 26=some i26:=by rfl
theorem p26:ae 26=none:=by rfl
def NL:Tys:=tyG [(.agg [.int .i64,.str,.sl,.sl],[0,7]),(.one .own,[1]),(.one (.int .i64),[2,8]),(.one .ptr,[3,5,6]),(.agg [.int .i64],[4])]
def Oy:Pl:=.z
noncomputable def F26 (v:Int) (v1:List UInt8) (v2 v3:IV) (m:IM):Option (IV×IM):=dm v2 (dm v3 (bc cw (.f 55) [.pB (IM.size m) 0,.agg [.int .i64 v,.str v1,v2,v3],.int .i64 1] [] (bR m (.cells [.int .i64 2000] [.any])) fun v0 m1=>asI .i64 v0 fun n2=>settle m m1 (.int .i64 n2)))
theorem JK (v:Int) (v1:List UInt8) (v2 v3:IV) (m:IM):eS NL Oy i26 cw [.agg [.int .i64 v,.str v1,v2,v3]] m=F26 v v1 v2 v3 m:=by kernel_rfl
theorem DD (v:Int) (v1:List UInt8) (v2 v3:IV) (m:IM) {res:IV×IM}(h:F26 v v1 v2 v3 m=some res):cw (.f 26) [.agg [.int .i64 v,.str v1,v2,v3]] m=some res:=bb p26 f26 ((JK v v1 v2 v3 m).trans h)
theorem f50:tab.fns 50=some i50:=by rfl
theorem p50:ae 50=none:=by rfl
def NJ:Tys:=tyG [(.one .sl,[0,2,3,4])]
def Ok:Pl:=.z
noncomputable def F50 (l:IV) (m:IM):Option (IV×IM):=jN m 1 l fun l0 k1=>eN l0 (grd (Nat.beq (List.length l0) (k1*1)) (bQ (k1==0) (settle m m .nilSlice) (grd (decide (k1*16≤ak)) (settle m m (.sl l0 k1)))))
theorem IZ (l:IV) (m:IM):eS NJ Ok i50 cw [l] m=F50 l m:=by kernel_rfl
theorem qv (l:IV) (m:IM) {res:IV×IM}(h:F50 l m=some res):cw (.f 50) [l] m=some res:=bb p50 f50 ((IZ l m).trans h)
theorem f54:tab.fns 54=some i54:=by rfl
theorem p54:ae 54=none:=by rfl
def Le:Tys:=tyG [(.agg [.int .i64,.str,.sl,.sl],[0,22,33,34]),(.one (.int .i64),[1,6,7,10,13,17,18,20,23,24,26,29,30,35,36,38,39,41,42]),(.one .ptr0,[2]),(.one .own,[3,9,27]),(.one .ptr,[11,12,15,16,19,37]),(.one .bool,[14,21,25,40]),(.one .sl,[28])]
def Iy:XP:=[⟨(.exit 0),[],[],[]⟩,⟨.ret,[(6,unk)],[.dead 1],[]⟩]
def Im:Pl:=.z
def N5:Pl:=(.n none .z (.n none .z (.n none .z (.n none .z (.n none .z (.n none (.n none .z (.n none (.n (some Iy) Im .z) .z)) .z))))))
noncomputable def CC:St→Option (St⊕LR):=fun s=>IE.den Le cw (St⊕LR) Im s (fQ Le Ir Iy)
noncomputable def CB (level:Int) (left:Nat) (v:IV) (n n1:Int) (m:IM):Option LR:=iter CC (St.mk [(1,.int .i64 level,.any),(2,.pB left 0,.any),(28,v,.any),(29,.int .i64 n,.any),(30,.int .i64 n1,.any)] [] [] m)
noncomputable def t6 (level:Int) (left:Nat) (v:IV) (n n1:Int) (m:IM):Option (St⊕LR):=bQ (decide (n1<n)) (evC (.indexS 4) [v,.int .i64 n1] fun v0=>ldP m true 4 v0 fun v1=>asA v1 fun l2=>uV l2 fun n5 s8 v9 v11 l12=>unn l12 (dm v9 (dm v11 (bc cw (.f 54) [.agg [.int .i64 n5,.str s8,v9,v11],.int .i64 (IntKind.wrap .i64 (level+1)),.pB left 0] [] m fun v13 m14=>asI .i64 v13 fun n15=>bQ (n15 != 0) (some (.inr (.ret,[.int .i64 n15],[],m14))) (c7 v (some (.inl (St.mk [(1,.int .i64 level,.any),(2,.pB left 0,.any),(28,v,.any),(29,.int .i64 n,.any),(30,.int .i64 (IntKind.wrap .i64 (n1+1)),.any)] [] [] m14)))))))) (some (.inr (.exit 0,[],[],m)))
theorem Eg (level:Int) (left:Nat) (v:IV) (n n1:Int) (m:IM):CC (St.mk [(1,.int .i64 level,.any),(2,.pB left 0,.any),(28,v,.any),(29,.int .i64 n,.any),(30,.int .i64 n1,.any)] [] [] m)=t6 level left v n n1 m:=by kernel_rfl
theorem rB (level:Int) (left:Nat) (v:IV) (n n1:Int) (m:IM):CB level left v n n1 m=nxt CC (t6 level left v n n1 m):=by rw[←Eg];exact cU _ _
noncomputable def F54 (v:Int) (v1:List UInt8) (v2 v3:IV) (level:Int) (left:Nat) (m:IM):Option (IV×IM):=dm v2 (dm v3 (gI m left 0 fun n3=>bQ (n3==0) (settle m m (.int .i64 5)) (gI m left 0 fun n7=>stP m (.pB left 0) [.int .i64 (IntKind.wrap .i64 (n7-1))] .any fun m8=>bQ (decide (level>40)) (settle m m8 (.int .i64 21)) (bc cw (.f 84) [.agg [.int .i64 v,.str v1,v2,v3]] [] m8 fun v9 m10=>asI .i64 v9 fun n11=>bQ (n11 != 0) (settle m m10 (.int .i64 n11)) (evC .lenSlice [v3] fun v12=>asI .i64 v12 fun n13=>c7 v3 (cK (CB level left v3 n13 0 m10) fun e14 l15 o16 m17=>exC (.exit 0) e14 (unn l15 (dF o16 (settle m m17 (.int .i64 0)))) (exC .ret e14 (uI .i64 l15 fun n20 l19=>unn l19 (dF o16 (settle m m17 (.int .i64 n20)))) none)))))))
theorem KG (v:Int) (v1:List UInt8) (v2 v3:IV) (level:Int) (left:Nat) (m:IM):eS Le N5 i54 cw [.agg [.int .i64 v,.str v1,v2,v3],.int .i64 level,.pB left 0] m=F54 v v1 v2 v3 level left m:=by kernel_rfl
theorem De (v:Int) (v1:List UInt8) (v2 v3:IV) (level:Int) (left:Nat) (m:IM) {res:IV×IM}(h:F54 v v1 v2 v3 level left m=some res):cw (.f 54) [.agg [.int .i64 v,.str v1,v2,v3],.int .i64 level,.pB left 0] m=some res:=bb p54 f54 ((KG v v1 v2 v3 level left m).trans h)
theorem f55:tab.fns 55=some i55:=by rfl
theorem p55:ae 55=none:=by rfl
def Kc:Tys:=tyG [(.one .ptr0,[0]),(.agg [.int .i64,.str,.sl,.sl],[1,25,42]),(.one (.int .i64),[2,6,7,8,9,13,19,20,23,26,27,29,30,33,35,36,40,43,44,45,46,48]),(.one .own,[4,31,38]),(.one .ptr,[10,11,12,15,16,17,18,21,22,37]),(.one .bool,[14,24,28,34,47]),(.one .sl,[32,39])]
def Iw:XP:=[⟨(.exit 0),[],[.dead 0],[]⟩,⟨.ret,[(6,unk)],[.dead 0],[]⟩]
def IB:Pl:=.z
def NS:Pl:=(.n none .z (.n none .z (.n none .z (.n none .z (.n none .z (.n none (.n none .z (.n none (.n (some Iw) IB .z) .z)) .z))))))
noncomputable def FX:St→Option (St⊕LR):=fun s=>Iz.den Kc cw (St⊕LR) IB s (fQ Kc IC Iw)
noncomputable def EK (c:Nat) (level i n:Int) (s:List UInt8) (v v1:IV) (m:IM):Option LR:=iter FX (St.mk [(0,.pB c 0,.any),(2,.int .i64 level,.any),(4,.pL 0 0,.any),(8,.int .i64 i,.any)] [] [(0,.cells [.int .i64 n,.str s,v,v1] [.any,.any,.any,.any])] m)
noncomputable def tX (c:Nat) (level i n:Int) (s:List UInt8) (v v1:IV) (m:IM):Option (St⊕LR):=evC .lenSlice [v1] fun v0=>asI .i64 v0 fun n1=>bQ (decide (i<n1)) (evC (.indexS 4) [v1,.int .i64 i] fun v2=>ldP m true 4 v2 fun v3=>asA v3 fun l4=>uV l4 fun n7 s10 v11 v13 l14=>unn l14 (bc cw (.f 55) [.pB c 0,.agg [.int .i64 n7,.str s10,v11,v13],.int .i64 (IntKind.wrap .i64 (level+1))] [] m fun v15 m16=>asI .i64 v15 fun n17=>bQ (n17 != 0) (some (.inr (.ret,[.int .i64 n17],[],m16))) (some (.inl (St.mk [(0,.pB c 0,.any),(2,.int .i64 level,.any),(4,.pL 0 0,.any),(8,.int .i64 (IntKind.wrap .i64 (i+1)),.any)] [] [(0,.cells [.int .i64 n,.str s,v,v1] [.any,.any,.any,.any])] m16))))) (some (.inr (.exit 0,[],[],m)))
theorem Fi (c:Nat) (level i n:Int) (s:List UInt8) (v v1:IV) (m:IM):FX (St.mk [(0,.pB c 0,.any),(2,.int .i64 level,.any),(4,.pL 0 0,.any),(8,.int .i64 i,.any)] [] [(0,.cells [.int .i64 n,.str s,v,v1] [.any,.any,.any,.any])] m)=tX c level i n s v v1 m:=by kernel_rfl
theorem sx (c:Nat) (level i n:Int) (s:List UInt8) (v v1:IV) (m:IM):EK c level i n s v v1 m=nxt FX (tX c level i n s v v1 m):=by rw[←Fi];exact cU _ _
noncomputable def F55 (c:Nat) (v:Int) (v1:List UInt8) (v2 v3:IV) (level:Int) (m:IM):Option (IV×IM):=dm v2 (dm v3 (gI m c 0 fun n3=>bQ (n3==0) (settle m m (.int .i64 5)) (gI m c 0 fun n7=>stP m (.pB c 0) [.int .i64 (IntKind.wrap .i64 (n7-1))] .any fun m8=>bQ (decide (level>40)) (settle m m8 (.int .i64 21)) (bc cw (.f 85) [.agg [.int .i64 v,.str v1,v2,v3]] [] m8 fun v9 m10=>asI .i64 v9 fun n11=>bQ (n11 != 0) (settle m m10 (.int .i64 n11)) (cK (EK c level 0 v v1 v2 v3 m10) fun e12 l13 o14 m15=>exC (.exit 0) e12 (unn l13 (dF o14 (settle m m15 (.int .i64 0)))) (exC .ret e12 (uI .i64 l13 fun n18 l17=>unn l17 (dF o14 (settle m m15 (.int .i64 n18)))) none))))))
theorem Kr (c:Nat) (v:Int) (v1:List UInt8) (v2 v3:IV) (level:Int) (m:IM):eS Kc NS i55 cw [.pB c 0,.agg [.int .i64 v,.str v1,v2,v3],.int .i64 level] m=F55 c v v1 v2 v3 level m:=by kernel_rfl
theorem DX (c:Nat) (v:Int) (v1:List UInt8) (v2 v3:IV) (level:Int) (m:IM) {res:IV×IM}(h:F55 c v v1 v2 v3 level m=some res):cw (.f 55) [.pB c 0,.agg [.int .i64 v,.str v1,v2,v3],.int .i64 level] m=some res:=bb p55 f55 ((Kr c v v1 v2 v3 level m).trans h)
end Go.Idl
