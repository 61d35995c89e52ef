/- This text proves the card of OpsConsequences, on the condition that the interpreter returns true. -/
import Derived.Test.YtbpnjicaapldoaaGreatDoorIdj
import Derived.ChangeMaps5
set_option linter.unusedSimpArgs false
set_option linter.unusedVariables false
namespace Go.Proofs.YtbpnjicaapldoaaGreatDoor
open Go.ChangeMaps Go.Idl Go.Shelf Go.RowKit Go.ChangeShapes Go.WideShapes Go.ChangeAt Go.WideMaps Go.WideElems
theorem u64_wf0 {x:Int}(h:(Lit.int .u64 x).wf=true):0≤x:=by
 simp[Lit.wf,IntKind.min,IntKind.max,IntKind.signed,IntKind.bits] at h
 exact h.1
theorem u64_wf {x:Nat}(h:(Lit.int .u64 (x:Int)).wf=true):x<18446744073709551616:=by
 simp[Lit.wf,IntKind.min,IntKind.max,IntKind.signed,IntKind.bits] at h
 omega
theorem cellsU:Tryz.prog.cellsOf 22=1:=by kernel_rfl
theorem cellsP:Tryz.prog.cellsOf 24=2:=by kernel_rfl
theorem two_of {α:Type}:∀(l:List α),l.length=2→∃a b,l=[a,b]
 |[a,b],_=>⟨a,b,rfl⟩
section
variable {H:Type}{enc:TypeId×Value→H}{W:World}{v:Value}{x:DataW H}{p:List MemPlace}
theorem open_two (h:DataW.Trod enc Tryz.prog W 0 (fun _=>true) true 24 v x p):∃A B:Nat,v=.agg #[.int .u64 (A:Int),.int .u64 (B:Int)]∧x=.agg [.lit (.int .u64 (A:Int)),.lit (.int .u64 (B:Int))]∧p=[]∧(Lit.int .u64 (A:Int)).wf=true∧(Lit.int .u64 (B:Int)).wf=true:=by
 obtain⟨fuel,hf⟩:=h
 obtain⟨y0,y1,m,hx,hl,t0,t1⟩:=trod_struct2 Tryz.underlying24 hf
 rw[cellsP] at hl
 obtain⟨A,e0,r0,w0⟩:=DataW.trod_int Tryz.underlying22 t0
 obtain⟨B,e1,r1,w1⟩:=DataW.trod_int Tryz.underlying22 t1
 simp only[cellsU] at e0 e1
 obtain⟨a,rfl⟩:=Int.eq_ofNat_of_zero_le (u64_wf0 w0)
 obtain⟨b,rfl⟩:=Int.eq_ofNat_of_zero_le (u64_wf0 w1)
 subst r0 r1
 simp only[Prod.mk.injEq] at hx
 refine⟨a,b,?_,hx.1,hx.2,w0,w1⟩
 cases v with
 |agg cs =>
  obtain⟨l⟩:=cs
  obtain⟨c0,c1,rfl⟩:=two_of l hl
  have e0:[c0]=_:=e0
  have e1:[c1]=_:=e1
  rw[(List.cons.inj e0).1,(List.cons.inj e1).1]
 |_=>cases hl
theorem shut_two {sp:Nat→Bool}{A B:Nat}(wa:(Lit.int .u64 (A:Int)).wf=true) (wb:(Lit.int .u64 (B:Int)).wf=true):DataW.Trod enc Tryz.prog W 0 sp true 24 (.agg #[.int .u64 (A:Int),.int .u64 (B:Int)]) (.agg [.lit (.int .u64 (A:Int)),.lit (.int .u64 (B:Int))]) [] :=
 ⟨_,trod_struct2_mk (n:=1) (y0:=(.lit (.int .u64 (A:Int)),[])) (y1:=(.lit (.int .u64 (B:Int)),[])) Tryz.underlying24 (by rw[cellsP];rfl) (by rw[cellsU];exact trod_int_mk 0 Tryz.underlying22 wa) (by rw[cellsU];exact trod_int_mk 0 Tryz.underlying22 wb)⟩
end
set_option maxRecDepth 100000 in
theorem opsConsequences_lifted (hI:∀(s0:List UInt8) (a1 b1:Nat) (_:a1<18446744073709551616) (_:b1<18446744073709551616),∃k m',(sem tab prims k).call (.f 3) [.str s0,.agg [.int .u64 (a1:Int),.int .u64 (b1:Int)]] ⟨[],0⟩=some (.bool true,m')) (os:Os) (started:os.Started) (H:Type) (enc:TypeId×Value→H) :
  ReturnsInHanded {} Tryz.checked os 3 .any (fun w args=>(Rows.opsConsequencesSpec.pre enc Tryz.prog Tryz.f3 [] false w args∧laidMetH Tryz.prog laidL w)∧sizedMet enc Tryz.prog Tryz.f3 (OpenSpec.ofChange Rows.opsConsequencesSpec) false w args)
   (Rows.opsConsequencesSpec.post enc Tryz.prog Tryz.f3 false true false false):=by
 refine returnsInHanded_of_change_and (C:=Tryz.checked) (X:=fun w _=>laidMetH Tryz.prog laidL w) (fun _ _ _ hh h=>h.of_heap hh) own started (by kernel_rfl) Tryz.func3
  (ChangeSpec.witness_shaped (enc:=enc) (C:=Tryz.checked) (os:=os) (X:=fun w _=>laidMetH Tryz.prog laidL w) false (wit os) #[.string ⟨#[]⟩,.agg #[.int .u64 0,.int .u64 0]] 8 (wit_os os) (shaped os _) (by kernel_rfl) (by kernel_rfl) (by kernel_rfl) (door_met os _)) ?_
 intro W base args ds gs before hval0 hW _ _ hL _
 have hval:∀(j:Nat) t v,Tryz.f3.params[j]?=some t→args[j]?=some v→Value.okWide Tryz.prog W .any base t v:=hval0
 have hW':=hW
 obtain⟨p,q,hA0,hV,rfl,hfz,hnd⟩:=hW
 have hA:DataW.TrodAll enc Tryz.prog W 0 (fun _=>true) true Tryz.f3.params.toList args.toList ds p:=hA0
 rw[Tryz.params3] at hA hval
 obtain⟨v0,v1,d0,d1,p0,p1,rfl,rfl,rfl,h0,h1⟩:=trodAll_two hA
 obtain⟨rfl,rfl⟩:=trodVars_none hV
 obtain⟨s0,rfl,rfl,rfl,w0⟩:=open_string Tryz.underlying9 (hval 0 9 v0 rfl rfl) h0
 obtain⟨a1,b1,rfl,rfl,rfl,wa1,wb1⟩:=open_two h1
 clear hA0 hval0
 simp only[List.append_nil] at hW'
 obtain⟨k,m',hk⟩:=hI s0.data.toList a1 b1 (u64_wf wa1) (u64_wf wb1)
 have ha:VRs (gh0 W) [.str s0.data.toList,.agg [.int .u64 (a1:Int),.int .u64 (b1:Int)]] [.string s0,.agg #[.int .u64 (a1:Int),.int .u64 (b1:Int)]]:=VRs.cons (by obtain⟨⟨l⟩⟩:=s0;exact .str _) (VRs.cons (.agg _ _ rfl (VRs.cons (.int _ _) (VRs.cons (.int _ _) VRs.nil)).2) VRs.nil)
 refine (law_calls (X:=ctx) (calls_ok k) Tryz.func3 (by kernel_rfl) (by kernel_rfl) hk (rows_at hL) ha).mono fun e W' ⟨he,bel⟩=>?_
 subst he
 refine⟨_,rfl,⟨_,_,_,[],[],[],hW',trodAll_mk1 (shut_bool Tryz.underlying4 _),trodAll_mk2 (shut_string Tryz.underlying9 w0) (shut_two wa1 wb1),rfl,bel.frame _,fun h=>by cases h⟩⟩
theorem opsConsequences_k0:(Rows.opsConsequencesRow.wf (OpenSpec.ofChange Rows.opsConsequencesSpec))=true:=by kernel_rfl
theorem opsConsequences_k1:(laidOutB Tryz.prog)=true:=by kernel_rfl
theorem opsConsequences_k2:(mapsRowed Tryz.prog)=true:=by kernel_rfl
theorem opsConsequences_k3:(Tryz.f3.params.all (Tryz.prog.readableRec ·))=true:=by kernel_rfl
theorem opsConsequences_k4:(namedTie Tryz.prog Rows.opsConsequencesRow.named Rows.opsConsequencesSpec.vars)=true:=by kernel_rfl
theorem opsConsequences_k5:((Rows.opsConsequencesRow.stops==[]))=true:=by kernel_rfl
theorem opsConsequences_k6:((Tryz.prog.stops==[]))=true:=by kernel_rfl
theorem opsConsequences_k7:((Rows.opsConsequencesRow.knobs==[]))=true:=by kernel_rfl
theorem opsConsequences_k8:((Tryz.prog.stopKnobs==[]))=true:=by kernel_rfl
theorem opsConsequences_k9:((Rows.opsConsequencesRow.inPlace==Tryz.prog.inPlace 3))=true:=by kernel_rfl
theorem opsConsequences_k10:((Rows.opsConsequencesRow.unfollowed==Tryz.prog.unfollowed 3))=true:=by kernel_rfl
theorem opsConsequences_k11:((Rows.opsConsequencesRow.recurses==Tryz.prog.recurses 3))=true:=by kernel_rfl
theorem opsConsequences_k12:((Rows.opsConsequencesRow.named==Tryz.prog.varsNamed 3))=true:=by kernel_rfl
theorem opsConsequences_k13:((Rows.opsConsequencesRow.maps==(Tryz.f3.params.toList++Rows.opsConsequencesSpec.plain.varTypes Tryz.prog).any (Tryz.prog.mapsRec ·)))=true:=by kernel_rfl
theorem opsConsequences_k14:((Rows.opsConsequencesRow.ifaces==(Tryz.f3.params.toList++Rows.opsConsequencesSpec.plain.varTypes Tryz.prog).any (Tryz.prog.ifacesRec ·)))=true:=by kernel_rfl
theorem opsConsequences_k15:((Rows.opsConsequencesRow.mapsOut==Tryz.prog.mapsAmong Tryz.f3.resultTypes.toList))=true:=by kernel_rfl
theorem opsConsequences_k16:((Rows.opsConsequencesRow.loops==(Tryz.f3.params.toList++Rows.opsConsequencesSpec.plain.varTypes Tryz.prog).any (Tryz.prog.loopsFrom ·)))=true:=by kernel_rfl
theorem opsConsequences_k17:((Rows.opsConsequencesRow.wideKeys==(Tryz.f3.params.toList++Rows.opsConsequencesSpec.plain.varTypes Tryz.prog++Tryz.f3.resultTypes.toList).any (Tryz.prog.wideKeysFrom ·)))=true:=by kernel_rfl
theorem opsConsequences_k18:(Rows.opsConsequencesSpec.vars.all (Tryz.prog.varReadable ·))=true:=by kernel_rfl
theorem opsConsequences_k19:(Tryz.f3.resultTypes.all (fun t=>Tryz.prog.readableRec t&&decide (t<Tryz.prog.types.size)))=true:=by kernel_rfl
theorem opsConsequences_k20:((Rows.opsConsequencesRow.ifacesOut==Tryz.f3.resultTypes.toList.any (Tryz.prog.ifacesRec ·)))=true:=by kernel_rfl
theorem opsConsequences_k21:((Rows.opsConsequencesRow.loopsOut==Tryz.f3.resultTypes.toList.any (Tryz.prog.loopsFrom ·)))=true:=by kernel_rfl
theorem opsConsequences_k22:((Rows.opsConsequencesRow.plainKeys==Tryz.prog.plainKeys))=true:=by kernel_rfl
theorem opsConsequences_k23:(Rows.opsConsequencesRow.shortTexts.isNone)=true:=by kernel_rfl
theorem opsConsequences_k24:(Tryz.prog.stopsHeard)=true:=by kernel_rfl
theorem opsConsequences_k25:(Tryz.prog.mayEnter)=true:=by kernel_rfl
theorem opsConsequences_k26:((Rows.opsConsequencesRow.lifted==Tryz.prog.liftsFinal))=true:=by kernel_rfl
theorem opsConsequences_k27:((Tryz.prog.make==some Rows.opsConsequencesRow.make))=true:=by kernel_rfl
theorem opsConsequences_k28:((Rows.opsConsequencesRow.kinds==(if Rows.opsConsequencesRow.domain.isEmpty then [] else Tryz.f3.params.toList.map fun t=>match Tryz.prog.underlying t with | some (.int k)=>some k | _=>none)))=true:=by kernel_rfl
theorem opsConsequences_k29:((Rows.opsConsequencesRow.pinned==Rows.opsConsequencesRow.pinnedBy))=true:=by kernel_rfl
theorem opsConsequences_k30:((Rows.opsConsequencesRow.veiled==(Tryz.f3.params.toList++Rows.opsConsequencesSpec.plain.varTypes Tryz.prog++Tryz.f3.resultTypes.toList).any (Tryz.prog.veiledRec ·)))=true:=by kernel_rfl
theorem opsConsequences_k31:(Rows.opsConsequencesRow.veiledFits Tryz.prog Tryz.f3.params.toList (Tryz.f3.params.toList++Rows.opsConsequencesSpec.plain.varTypes Tryz.prog++Tryz.f3.resultTypes.toList))=true:=by kernel_rfl
set_option maxRecDepth 100000 in
theorem opsConsequences_facts:joinedFacts Tryz.prog 3 Tryz.f3 Rows.opsConsequencesSpec Rows.opsConsequencesRow=true:=by
 have a:∀{x y:Bool},x=true→y=true→(x&&y)=true:=fun h1 h2=>by rw[h1,h2];rfl
 exact a (a (a (a (a (a (a (a (a (a (a (a (a (a (a (a (a (a (a (a (a (a (a (a (a (a (a (a (a (a (a opsConsequences_k0 opsConsequences_k1) opsConsequences_k2) opsConsequences_k3) opsConsequences_k4) opsConsequences_k5) opsConsequences_k6) opsConsequences_k7) opsConsequences_k8) opsConsequences_k9) opsConsequences_k10) opsConsequences_k11) opsConsequences_k12) opsConsequences_k13) opsConsequences_k14) opsConsequences_k15) opsConsequences_k16) opsConsequences_k17) opsConsequences_k18) opsConsequences_k19) opsConsequences_k20) opsConsequences_k21) opsConsequences_k22) opsConsequences_k23) opsConsequences_k24) opsConsequences_k25) opsConsequences_k26) opsConsequences_k27) opsConsequences_k28) opsConsequences_k29) opsConsequences_k30) opsConsequences_k31
theorem opsConsequences_holds (hI:∀(s0:List UInt8) (a1 b1:Nat) (_:a1<18446744073709551616) (_:b1<18446744073709551616),∃k m',(sem tab prims k).call (.f 3) [.str s0,.agg [.int .u64 (a1:Int),.int .u64 (b1:Int)]] ⟨[],0⟩=some (.bool true,m')):Rows.OpsConsequencesSaid :=
 OpenClaim.holds_of_wide 3 Tryz.f3 rfl rfl rfl rfl rfl rfl rfl ⟨rfl,rfl,rfl,rfl,rfl⟩ rfl rfl rfl rfl rfl (by kernel_rfl) Tryz.func3 opsConsequences_facts
  (of_decide_eq_true (by kernel_rfl)) (by unfold Func.isWrapper;first | (rw[if_pos (by decide +kernel)];kernel_rfl) | (rw[if_neg (by decide +kernel)];exact⟨rfl,rfl⟩))
  (fun os started H enc _=>opsConsequences_lifted hI os started H enc)
theorem opsConsequences_card (hI:∀(s0:List UInt8) (a1 b1:Nat) (_:a1<18446744073709551616) (_:b1<18446744073709551616),∃k m',(sem tab prims k).call (.f 3) [.str s0,.agg [.int .u64 (a1:Int),.int .u64 (b1:Int)]] ⟨[],0⟩=some (.bool true,m')):Rows.OpsConsequencesCardSaid :=
 Claim7.holds_tied_plain_at .later [] [.data,.data,.widerDeep,.widerDeep,.data,.data,.data,.data,.data,.sentinel,.sentinel,.listed,.data,.funcs,.data,.widerDeep,.pinned,.pinned] true (true, "0192df46244758ef0f7612ea6395327efa04fbb2a2be42e3c5db3c5ccd2df540") true
  (opsConsequences_holds hI) (fun _ h=>by cases h) (by kernel_rfl) (fun _ h=>by cases h) opsConsequences_row_tie rfl ⟨rfl,rfl⟩ (by kernel_rfl) rfl
  (fun f fn hf hfn=>by
   obtain rfl:f=3:=Option.some.inj ((show Tryz.prog.funcNamed "bowline/bowlinelaw11.OpsConsequences" = some 3 by kernel_rfl).symm.trans hf) |>.symm
   obtain rfl:fn=Tryz.f3:=(Option.some.inj (Tryz.func3.symm.trans hfn)).symm
   exact⟨by kernel_rfl,fun j t ht=>by
    rw[Tryz.params3] at ht
    have hm:t∈[9,24]:=by simpa using Array.mem_of_getElem? ht
    have hall:([9,24].all fun u=>!Tryz.prog.wantsStandIn u)=true:=by kernel_rfl
    exact (show Tryz.prog.wantsStandIn t=false by simpa using List.all_eq_true.1 hall t hm)⟩)
  (by kernel_rfl)
end Go.Proofs.YtbpnjicaapldoaaGreatDoor
