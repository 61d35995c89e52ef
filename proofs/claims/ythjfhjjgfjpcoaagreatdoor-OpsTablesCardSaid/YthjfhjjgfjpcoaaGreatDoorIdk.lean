/- This text proves the card of OpsTables, on the condition that the interpreter returns true. -/
import Derived.Test.YthjfhjjgfjpcoaaGreatDoorIdj
import Derived.ChangeMaps5
set_option linter.unusedSimpArgs false
set_option linter.unusedVariables false
namespace Go.Proofs.YthjfhjjgfjpcoaaGreatDoor
open Go.ChangeMaps Go.Idl Go.Shelf Go.RowKit Go.ChangeShapes Go.WideShapes Go.ChangeAt Go.WideMaps Go.WideElems
set_option maxRecDepth 100000 in
theorem opsTables_lifted (hI:∀(n0:Int) (s1:List UInt8) (n2:Int),∃k m',(sem tab prims k).call (.f 4) [.int .i64 n0,.str s1,.int .i64 n2] ⟨[],0⟩=some (.bool true,m')) (os:Os) (started:os.Started) (H:Type) (enc:TypeId×Value→H) :
  ReturnsInHanded {} Tryz.checked os 4 .any (fun w args=>(Rows.opsTablesSpec.pre enc Tryz.prog Tryz.f4 [] false w args∧laidMetH Tryz.prog laidL w)∧sizedMet enc Tryz.prog Tryz.f4 (OpenSpec.ofChange Rows.opsTablesSpec) false w args)
   (Rows.opsTablesSpec.post enc Tryz.prog Tryz.f4 false true false false):=by
 refine returnsInHanded_of_change_and (C:=Tryz.checked) (X:=fun w _=>laidMetH Tryz.prog laidL w) (fun _ _ _ hh h=>h.of_heap hh) own started (by kernel_rfl) Tryz.func4
  (ChangeSpec.witness_shaped (enc:=enc) (C:=Tryz.checked) (os:=os) (X:=fun w _=>laidMetH Tryz.prog laidL w) false (wit os) #[.int .i64 0,.string ⟨#[]⟩,.int .i64 0] 8 (wit_os os) (shaped os _) (by kernel_rfl) (by kernel_rfl) (by kernel_rfl) (door_met os _)) ?_
 intro W base args ds gs before hval0 hW _ _ hL _
 have hval:∀(j:Nat) t v,Tryz.f4.params[j]?=some t→args[j]?=some v→Value.okWide Tryz.prog W .any base t v:=hval0
 have hW':=hW
 obtain⟨p,q,hA0,hV,rfl,hfz,hnd⟩:=hW
 have hA:DataW.TrodAll enc Tryz.prog W 0 (fun _=>true) true Tryz.f4.params.toList args.toList ds p:=hA0
 rw[Tryz.params4] at hA hval
 obtain⟨v0,v1,v2,d0,d1,d2,p0,p1,p2,rfl,rfl,rfl,h0,h1,h2⟩:=trodAll_three hA
 obtain⟨rfl,rfl⟩:=trodVars_none hV
 obtain⟨n0,rfl,rfl,rfl,w0⟩:=open_int Tryz.underlying3 (hval 0 3 v0 rfl rfl) h0
 obtain⟨s1,rfl,rfl,rfl,w1⟩:=open_string Tryz.underlying9 (hval 1 9 v1 rfl rfl) h1
 obtain⟨n2,rfl,rfl,rfl,w2⟩:=open_int Tryz.underlying3 (hval 2 3 v2 rfl rfl) h2
 clear hA0 hval0
 simp only[List.append_nil] at hW'
 obtain⟨k,m',hk⟩:=hI n0 s1.data.toList n2
 have ha:VRs (gh0 W) [.int .i64 n0,.str s1.data.toList,.int .i64 n2] [.int .i64 n0,.string s1,.int .i64 n2]:=VRs.cons (.int _ _) (VRs.cons (by obtain⟨⟨l⟩⟩:=s1;exact .str _) (VRs.cons (.int _ _) VRs.nil))
 refine (law_calls (X:=ctx) (calls_ok k) Tryz.func4 (by kernel_rfl) (by kernel_rfl) hk (rows_at hL) ha).mono fun e W' ⟨he,bel⟩=>?_
 subst he
 refine⟨_,rfl,⟨_,_,_,[],[],[],hW',trodAll_mk1 (shut_bool Tryz.underlying4 _),trodAll_mk3 (shut_int Tryz.underlying3 w0) (shut_string Tryz.underlying9 w1) (shut_int Tryz.underlying3 w2),rfl,bel.frame _,fun h=>by cases h⟩⟩
theorem opsTables_k0:(Rows.opsTablesRow.wf (OpenSpec.ofChange Rows.opsTablesSpec))=true:=by kernel_rfl
theorem opsTables_k1:(laidOutB Tryz.prog)=true:=by kernel_rfl
theorem opsTables_k2:(mapsRowed Tryz.prog)=true:=by kernel_rfl
theorem opsTables_k3:(Tryz.f4.params.all (Tryz.prog.readableRec ·))=true:=by kernel_rfl
theorem opsTables_k4:(namedTie Tryz.prog Rows.opsTablesRow.named Rows.opsTablesSpec.vars)=true:=by kernel_rfl
theorem opsTables_k5:((Rows.opsTablesRow.stops==[]))=true:=by kernel_rfl
theorem opsTables_k6:((Tryz.prog.stops==[]))=true:=by kernel_rfl
theorem opsTables_k7:((Rows.opsTablesRow.knobs==[]))=true:=by kernel_rfl
theorem opsTables_k8:((Tryz.prog.stopKnobs==[]))=true:=by kernel_rfl
theorem opsTables_k9:((Rows.opsTablesRow.inPlace==Tryz.prog.inPlace 4))=true:=by kernel_rfl
theorem opsTables_k10:((Rows.opsTablesRow.unfollowed==Tryz.prog.unfollowed 4))=true:=by kernel_rfl
theorem opsTables_k11:((Rows.opsTablesRow.recurses==Tryz.prog.recurses 4))=true:=by kernel_rfl
theorem opsTables_k12:((Rows.opsTablesRow.named==Tryz.prog.varsNamed 4))=true:=by kernel_rfl
theorem opsTables_k13:((Rows.opsTablesRow.maps==(Tryz.f4.params.toList++Rows.opsTablesSpec.plain.varTypes Tryz.prog).any (Tryz.prog.mapsRec ·)))=true:=by kernel_rfl
theorem opsTables_k14:((Rows.opsTablesRow.ifaces==(Tryz.f4.params.toList++Rows.opsTablesSpec.plain.varTypes Tryz.prog).any (Tryz.prog.ifacesRec ·)))=true:=by kernel_rfl
theorem opsTables_k15:((Rows.opsTablesRow.mapsOut==Tryz.prog.mapsAmong Tryz.f4.resultTypes.toList))=true:=by kernel_rfl
theorem opsTables_k16:((Rows.opsTablesRow.loops==(Tryz.f4.params.toList++Rows.opsTablesSpec.plain.varTypes Tryz.prog).any (Tryz.prog.loopsFrom ·)))=true:=by kernel_rfl
theorem opsTables_k17:((Rows.opsTablesRow.wideKeys==(Tryz.f4.params.toList++Rows.opsTablesSpec.plain.varTypes Tryz.prog++Tryz.f4.resultTypes.toList).any (Tryz.prog.wideKeysFrom ·)))=true:=by kernel_rfl
theorem opsTables_k18:(Rows.opsTablesSpec.vars.all (Tryz.prog.varReadable ·))=true:=by kernel_rfl
theorem opsTables_k19:(Tryz.f4.resultTypes.all (fun t=>Tryz.prog.readableRec t&&decide (t<Tryz.prog.types.size)))=true:=by kernel_rfl
theorem opsTables_k20:((Rows.opsTablesRow.ifacesOut==Tryz.f4.resultTypes.toList.any (Tryz.prog.ifacesRec ·)))=true:=by kernel_rfl
theorem opsTables_k21:((Rows.opsTablesRow.loopsOut==Tryz.f4.resultTypes.toList.any (Tryz.prog.loopsFrom ·)))=true:=by kernel_rfl
theorem opsTables_k22:((Rows.opsTablesRow.plainKeys==Tryz.prog.plainKeys))=true:=by kernel_rfl
theorem opsTables_k23:(Rows.opsTablesRow.shortTexts.isNone)=true:=by kernel_rfl
theorem opsTables_k24:(Tryz.prog.stopsHeard)=true:=by kernel_rfl
theorem opsTables_k25:(Tryz.prog.mayEnter)=true:=by kernel_rfl
theorem opsTables_k26:((Rows.opsTablesRow.lifted==Tryz.prog.liftsFinal))=true:=by kernel_rfl
theorem opsTables_k27:((Tryz.prog.make==some Rows.opsTablesRow.make))=true:=by kernel_rfl
theorem opsTables_k28:((Rows.opsTablesRow.kinds==(if Rows.opsTablesRow.domain.isEmpty then [] else Tryz.f4.params.toList.map fun t=>match Tryz.prog.underlying t with | some (.int k)=>some k | _=>none)))=true:=by kernel_rfl
theorem opsTables_k29:((Rows.opsTablesRow.pinned==Rows.opsTablesRow.pinnedBy))=true:=by kernel_rfl
theorem opsTables_k30:((Rows.opsTablesRow.veiled==(Tryz.f4.params.toList++Rows.opsTablesSpec.plain.varTypes Tryz.prog++Tryz.f4.resultTypes.toList).any (Tryz.prog.veiledRec ·)))=true:=by kernel_rfl
theorem opsTables_k31:(Rows.opsTablesRow.veiledFits Tryz.prog Tryz.f4.params.toList (Tryz.f4.params.toList++Rows.opsTablesSpec.plain.varTypes Tryz.prog++Tryz.f4.resultTypes.toList))=true:=by kernel_rfl
set_option maxRecDepth 100000 in
theorem opsTables_facts:joinedFacts Tryz.prog 4 Tryz.f4 Rows.opsTablesSpec Rows.opsTablesRow=true:=by
 have a:∀{x y:Bool},x=true→y=true→(x&&y)=true:=fun h1 h2=>by rw[h1,h2];rfl
 exact a (a (a (a (a (a (a (a (a (a (a (a (a (a (a (a (a (a (a (a (a (a (a (a (a (a (a (a (a (a (a opsTables_k0 opsTables_k1) opsTables_k2) opsTables_k3) opsTables_k4) opsTables_k5) opsTables_k6) opsTables_k7) opsTables_k8) opsTables_k9) opsTables_k10) opsTables_k11) opsTables_k12) opsTables_k13) opsTables_k14) opsTables_k15) opsTables_k16) opsTables_k17) opsTables_k18) opsTables_k19) opsTables_k20) opsTables_k21) opsTables_k22) opsTables_k23) opsTables_k24) opsTables_k25) opsTables_k26) opsTables_k27) opsTables_k28) opsTables_k29) opsTables_k30) opsTables_k31
theorem opsTables_holds (hI:∀(n0:Int) (s1:List UInt8) (n2:Int),∃k m',(sem tab prims k).call (.f 4) [.int .i64 n0,.str s1,.int .i64 n2] ⟨[],0⟩=some (.bool true,m')):Rows.OpsTablesSaid :=
 OpenClaim.holds_of_wide 4 Tryz.f4 rfl rfl rfl rfl rfl rfl rfl ⟨rfl,rfl,rfl,rfl,rfl⟩ rfl rfl rfl rfl rfl (by kernel_rfl) Tryz.func4 opsTables_facts
  (of_decide_eq_true (by kernel_rfl)) (by unfold Func.isWrapper;first | (rw[if_pos (by decide +kernel)];kernel_rfl) | (rw[if_neg (by decide +kernel)];exact⟨rfl,rfl⟩))
  (fun os started H enc _=>opsTables_lifted hI os started H enc)
theorem opsTables_card (hI:∀(n0:Int) (s1:List UInt8) (n2:Int),∃k m',(sem tab prims k).call (.f 4) [.int .i64 n0,.str s1,.int .i64 n2] ⟨[],0⟩=some (.bool true,m')):Rows.OpsTablesCardSaid :=
 Claim7.holds_tied_plain_at .later [] [.data,.data,.widerDeep,.widerDeep,.data,.data,.data,.data,.data,.sentinel,.sentinel,.listed,.data,.data,.widerDeep,.pinned,.pinned] true (true, "a76758e5a077aaa9ffd34132a9477292cd57bc26ff4d41b41f41596cea4b728a") true
  (opsTables_holds hI) (fun _ h=>by cases h) (by kernel_rfl) (fun _ h=>by cases h) opsTables_row_tie rfl ⟨rfl,rfl⟩ (by kernel_rfl) rfl
  (fun f fn hf hfn=>by
   obtain rfl:f=4:=Option.some.inj ((show Tryz.prog.funcNamed "bowline/bowlinelaw11.OpsTables" = some 4 by kernel_rfl).symm.trans hf) |>.symm
   obtain rfl:fn=Tryz.f4:=(Option.some.inj (Tryz.func4.symm.trans hfn)).symm
   exact⟨by kernel_rfl,fun j t ht=>by
    rw[Tryz.params4] at ht
    have hm:t∈[3,9,3]:=by simpa using Array.mem_of_getElem? ht
    have hall:([3,9,3].all fun u=>!Tryz.prog.wantsStandIn u)=true:=by kernel_rfl
    exact (show Tryz.prog.wantsStandIn t=false by simpa using List.all_eq_true.1 hall t hm)⟩)
  (by kernel_rfl)
end Go.Proofs.YthjfhjjgfjpcoaaGreatDoor
