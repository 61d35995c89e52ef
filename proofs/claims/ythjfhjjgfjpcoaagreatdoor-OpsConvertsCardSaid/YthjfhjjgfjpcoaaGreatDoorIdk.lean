/- This text proves the card of OpsConverts, on the condition that the interpreter returns true. -/
import Derived.Test.YthjfhjjgfjpcoaaGreatDoorIdj
import Derived.ChangeMaps5
set_option linter.unusedSimpArgs false
set_option linter.unusedVariables false
namespace Go.Proofs.YthjfhjjgfjpcoaaGreatDoor
open Go.ChangeMaps Go.Idl Go.Shelf Go.RowKit Go.ChangeShapes Go.WideShapes Go.ChangeAt Go.WideMaps Go.WideElems
set_option maxRecDepth 100000 in
theorem opsConverts_lifted (hI:∀(n0:Int) (s1:List UInt8) (s2:List UInt8),∃k m',(sem tab prims k).call (.f 3) [.int .i64 n0,.str s1,.str s2] ⟨[],0⟩=some (.bool true,m')) (os:Os) (started:os.Started) (H:Type) (enc:TypeId×Value→H) :
  ReturnsInHanded {} Tryz.checked os 3 .any (fun w args=>(Rows.opsConvertsSpec.pre enc Tryz.prog Tryz.f3 [] false w args∧laidMetH Tryz.prog laidL w)∧sizedMet enc Tryz.prog Tryz.f3 (OpenSpec.ofChange Rows.opsConvertsSpec) false w args)
   (Rows.opsConvertsSpec.post enc Tryz.prog Tryz.f3 false true false false):=by
 refine returnsInHanded_of_change_and (C:=Tryz.checked) (X:=fun w _=>laidMetH Tryz.prog laidL w) (fun _ _ _ hh h=>h.of_heap hh) own started (by kernel_rfl) Tryz.func3
  (ChangeSpec.witness_shaped (enc:=enc) (C:=Tryz.checked) (os:=os) (X:=fun w _=>laidMetH Tryz.prog laidL w) false (wit os) #[.int .i64 0,.string ⟨#[]⟩,.string ⟨#[]⟩] 8 (wit_os os) (shaped os _) (by kernel_rfl) (by kernel_rfl) (by kernel_rfl) (door_met os _)) ?_
 intro W base args ds gs before hval0 hW _ _ hL _
 have hval:∀(j:Nat) t v,Tryz.f3.params[j]?=some t→args[j]?=some v→Value.okWide Tryz.prog W .any base t v:=hval0
 have hW':=hW
 obtain⟨p,q,hA0,hV,rfl,hfz,hnd⟩:=hW
 have hA:DataW.TrodAll enc Tryz.prog W 0 (fun _=>true) true Tryz.f3.params.toList args.toList ds p:=hA0
 rw[Tryz.params3] at hA hval
 obtain⟨v0,v1,v2,d0,d1,d2,p0,p1,p2,rfl,rfl,rfl,h0,h1,h2⟩:=trodAll_three hA
 obtain⟨rfl,rfl⟩:=trodVars_none hV
 obtain⟨n0,rfl,rfl,rfl,w0⟩:=open_int Tryz.underlying3 (hval 0 3 v0 rfl rfl) h0
 obtain⟨s1,rfl,rfl,rfl,w1⟩:=open_string Tryz.underlying9 (hval 1 9 v1 rfl rfl) h1
 obtain⟨s2,rfl,rfl,rfl,w2⟩:=open_string Tryz.underlying9 (hval 2 9 v2 rfl rfl) h2
 clear hA0 hval0
 simp only[List.append_nil] at hW'
 obtain⟨k,m',hk⟩:=hI n0 s1.data.toList s2.data.toList
 have ha:VRs (gh0 W) [.int .i64 n0,.str s1.data.toList,.str s2.data.toList] [.int .i64 n0,.string s1,.string s2]:=VRs.cons (.int _ _) (VRs.cons (by obtain⟨⟨l⟩⟩:=s1;exact .str _) (VRs.cons (by obtain⟨⟨l⟩⟩:=s2;exact .str _) VRs.nil))
 refine (law_calls (X:=ctx) (calls_ok k) Tryz.func3 (by kernel_rfl) (by kernel_rfl) hk (rows_at hL) ha).mono fun e W' ⟨he,bel⟩=>?_
 subst he
 refine⟨_,rfl,⟨_,_,_,[],[],[],hW',trodAll_mk1 (shut_bool Tryz.underlying4 _),trodAll_mk3 (shut_int Tryz.underlying3 w0) (shut_string Tryz.underlying9 w1) (shut_string Tryz.underlying9 w2),rfl,bel.frame _,fun h=>by cases h⟩⟩
theorem opsConverts_k0:(Rows.opsConvertsRow.wf (OpenSpec.ofChange Rows.opsConvertsSpec))=true:=by kernel_rfl
theorem opsConverts_k1:(laidOutB Tryz.prog)=true:=by kernel_rfl
theorem opsConverts_k2:(mapsRowed Tryz.prog)=true:=by kernel_rfl
theorem opsConverts_k3:(Tryz.f3.params.all (Tryz.prog.readableRec ·))=true:=by kernel_rfl
theorem opsConverts_k4:(namedTie Tryz.prog Rows.opsConvertsRow.named Rows.opsConvertsSpec.vars)=true:=by kernel_rfl
theorem opsConverts_k5:((Rows.opsConvertsRow.stops==[]))=true:=by kernel_rfl
theorem opsConverts_k6:((Tryz.prog.stops==[]))=true:=by kernel_rfl
theorem opsConverts_k7:((Rows.opsConvertsRow.knobs==[]))=true:=by kernel_rfl
theorem opsConverts_k8:((Tryz.prog.stopKnobs==[]))=true:=by kernel_rfl
theorem opsConverts_k9:((Rows.opsConvertsRow.inPlace==Tryz.prog.inPlace 3))=true:=by kernel_rfl
theorem opsConverts_k10:((Rows.opsConvertsRow.unfollowed==Tryz.prog.unfollowed 3))=true:=by kernel_rfl
theorem opsConverts_k11:((Rows.opsConvertsRow.recurses==Tryz.prog.recurses 3))=true:=by kernel_rfl
theorem opsConverts_k12:((Rows.opsConvertsRow.named==Tryz.prog.varsNamed 3))=true:=by kernel_rfl
theorem opsConverts_k13:((Rows.opsConvertsRow.maps==(Tryz.f3.params.toList++Rows.opsConvertsSpec.plain.varTypes Tryz.prog).any (Tryz.prog.mapsRec ·)))=true:=by kernel_rfl
theorem opsConverts_k14:((Rows.opsConvertsRow.ifaces==(Tryz.f3.params.toList++Rows.opsConvertsSpec.plain.varTypes Tryz.prog).any (Tryz.prog.ifacesRec ·)))=true:=by kernel_rfl
theorem opsConverts_k15:((Rows.opsConvertsRow.mapsOut==Tryz.prog.mapsAmong Tryz.f3.resultTypes.toList))=true:=by kernel_rfl
theorem opsConverts_k16:((Rows.opsConvertsRow.loops==(Tryz.f3.params.toList++Rows.opsConvertsSpec.plain.varTypes Tryz.prog).any (Tryz.prog.loopsFrom ·)))=true:=by kernel_rfl
theorem opsConverts_k17:((Rows.opsConvertsRow.wideKeys==(Tryz.f3.params.toList++Rows.opsConvertsSpec.plain.varTypes Tryz.prog++Tryz.f3.resultTypes.toList).any (Tryz.prog.wideKeysFrom ·)))=true:=by kernel_rfl
theorem opsConverts_k18:(Rows.opsConvertsSpec.vars.all (Tryz.prog.varReadable ·))=true:=by kernel_rfl
theorem opsConverts_k19:(Tryz.f3.resultTypes.all (fun t=>Tryz.prog.readableRec t&&decide (t<Tryz.prog.types.size)))=true:=by kernel_rfl
theorem opsConverts_k20:((Rows.opsConvertsRow.ifacesOut==Tryz.f3.resultTypes.toList.any (Tryz.prog.ifacesRec ·)))=true:=by kernel_rfl
theorem opsConverts_k21:((Rows.opsConvertsRow.loopsOut==Tryz.f3.resultTypes.toList.any (Tryz.prog.loopsFrom ·)))=true:=by kernel_rfl
theorem opsConverts_k22:((Rows.opsConvertsRow.plainKeys==Tryz.prog.plainKeys))=true:=by kernel_rfl
theorem opsConverts_k23:(Rows.opsConvertsRow.shortTexts.isNone)=true:=by kernel_rfl
theorem opsConverts_k24:(Tryz.prog.stopsHeard)=true:=by kernel_rfl
theorem opsConverts_k25:(Tryz.prog.mayEnter)=true:=by kernel_rfl
theorem opsConverts_k26:((Rows.opsConvertsRow.lifted==Tryz.prog.liftsFinal))=true:=by kernel_rfl
theorem opsConverts_k27:((Tryz.prog.make==some Rows.opsConvertsRow.make))=true:=by kernel_rfl
theorem opsConverts_k28:((Rows.opsConvertsRow.kinds==(if Rows.opsConvertsRow.domain.isEmpty then [] else Tryz.f3.params.toList.map fun t=>match Tryz.prog.underlying t with | some (.int k)=>some k | _=>none)))=true:=by kernel_rfl
theorem opsConverts_k29:((Rows.opsConvertsRow.pinned==Rows.opsConvertsRow.pinnedBy))=true:=by kernel_rfl
theorem opsConverts_k30:((Rows.opsConvertsRow.veiled==(Tryz.f3.params.toList++Rows.opsConvertsSpec.plain.varTypes Tryz.prog++Tryz.f3.resultTypes.toList).any (Tryz.prog.veiledRec ·)))=true:=by kernel_rfl
theorem opsConverts_k31:(Rows.opsConvertsRow.veiledFits Tryz.prog Tryz.f3.params.toList (Tryz.f3.params.toList++Rows.opsConvertsSpec.plain.varTypes Tryz.prog++Tryz.f3.resultTypes.toList))=true:=by kernel_rfl
set_option maxRecDepth 100000 in
theorem opsConverts_facts:joinedFacts Tryz.prog 3 Tryz.f3 Rows.opsConvertsSpec Rows.opsConvertsRow=true:=by
 have a:∀{x y:Bool},x=true→y=true→(x&&y)=true:=fun h1 h2=>by rw[h1,h2];rfl
 exact a (a (a (a (a (a (a (a (a (a (a (a (a (a (a (a (a (a (a (a (a (a (a (a (a (a (a (a (a (a (a opsConverts_k0 opsConverts_k1) opsConverts_k2) opsConverts_k3) opsConverts_k4) opsConverts_k5) opsConverts_k6) opsConverts_k7) opsConverts_k8) opsConverts_k9) opsConverts_k10) opsConverts_k11) opsConverts_k12) opsConverts_k13) opsConverts_k14) opsConverts_k15) opsConverts_k16) opsConverts_k17) opsConverts_k18) opsConverts_k19) opsConverts_k20) opsConverts_k21) opsConverts_k22) opsConverts_k23) opsConverts_k24) opsConverts_k25) opsConverts_k26) opsConverts_k27) opsConverts_k28) opsConverts_k29) opsConverts_k30) opsConverts_k31
theorem opsConverts_holds (hI:∀(n0:Int) (s1:List UInt8) (s2:List UInt8),∃k m',(sem tab prims k).call (.f 3) [.int .i64 n0,.str s1,.str s2] ⟨[],0⟩=some (.bool true,m')):Rows.OpsConvertsSaid :=
 OpenClaim.holds_of_wide 3 Tryz.f3 rfl rfl rfl rfl rfl rfl rfl ⟨rfl,rfl,rfl,rfl,rfl⟩ rfl rfl rfl rfl rfl (by kernel_rfl) Tryz.func3 opsConverts_facts
  (of_decide_eq_true (by kernel_rfl)) (by unfold Func.isWrapper;first | (rw[if_pos (by decide +kernel)];kernel_rfl) | (rw[if_neg (by decide +kernel)];exact⟨rfl,rfl⟩))
  (fun os started H enc _=>opsConverts_lifted hI os started H enc)
theorem opsConverts_card (hI:∀(n0:Int) (s1:List UInt8) (s2:List UInt8),∃k m',(sem tab prims k).call (.f 3) [.int .i64 n0,.str s1,.str s2] ⟨[],0⟩=some (.bool true,m')):Rows.OpsConvertsCardSaid :=
 Claim7.holds_tied_plain_at .later [] [.data,.data,.widerDeep,.widerDeep,.data,.data,.data,.data,.data,.sentinel,.sentinel,.listed,.data,.data,.widerDeep,.pinned,.pinned] true (true, "a76758e5a077aaa9ffd34132a9477292cd57bc26ff4d41b41f41596cea4b728a") true
  (opsConverts_holds hI) (fun _ h=>by cases h) (by kernel_rfl) (fun _ h=>by cases h) opsConverts_row_tie rfl ⟨rfl,rfl⟩ (by kernel_rfl) rfl
  (fun f fn hf hfn=>by
   obtain rfl:f=3:=Option.some.inj ((show Tryz.prog.funcNamed "bowline/bowlinelaw11.OpsConverts" = some 3 by kernel_rfl).symm.trans hf) |>.symm
   obtain rfl:fn=Tryz.f3:=(Option.some.inj (Tryz.func3.symm.trans hfn)).symm
   exact⟨by kernel_rfl,fun j t ht=>by
    rw[Tryz.params3] at ht
    have hm:t∈[3,9,9]:=by simpa using Array.mem_of_getElem? ht
    have hall:([3,9,9].all fun u=>!Tryz.prog.wantsStandIn u)=true:=by kernel_rfl
    exact (show Tryz.prog.wantsStandIn t=false by simpa using List.all_eq_true.1 hall t hm)⟩)
  (by kernel_rfl)
end Go.Proofs.YthjfhjjgfjpcoaaGreatDoor
