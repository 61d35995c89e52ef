/- This text proves the card of TextSettles, on the condition that the interpreter returns true. -/
import Derived.Test.YtihkfdkoncekmaaGreatDoorIdj
import Derived.ChangeMaps5
set_option linter.unusedSimpArgs false
set_option linter.unusedVariables false
namespace Go.Proofs.YtihkfdkoncekmaaGreatDoor
open Go.ChangeMaps Go.Idl Go.Shelf Go.RowKit Go.ChangeShapes Go.WideShapes Go.ChangeAt Go.WideMaps Go.WideElems
set_option maxRecDepth 100000 in
theorem lZ (hI:∀(s:List UInt8),s.length≤maxLen→∃k m',(sem tab ae k).call (.f 7) [.str s] ⟨[],0⟩=some (.bool true,m')) (os:Os) (started:os.Started) (H:Type) (enc:TypeId×Value→H) :
  ReturnsInHanded {} Tryz.checked os 7 .any (fun w args=>(Rows.textSettlesSpec.pre enc Tryz.prog Tryz.f7 [] false w args∧laidMetH Tryz.prog vU w)∧sizedMet enc Tryz.prog Tryz.f7 (OpenSpec.ofChange Rows.textSettlesSpec) false w args)
   (Rows.textSettlesSpec.post enc Tryz.prog Tryz.f7 false true false false):=by
 refine returnsInHanded_of_change_and (C:=Tryz.checked) (X:=fun w _=>laidMetH Tryz.prog vU w) (fun _ _ _ hh h=>h.of_heap hh) own started (by kernel_rfl) Tryz.func7
  (ChangeSpec.witness_shaped (enc:=enc) (C:=Tryz.checked) (os:=os) (X:=fun w _=>laidMetH Tryz.prog vU w) false (wit os) #[.string ⟨#[]⟩] 8 (Ib os) (shaped os _) (by kernel_rfl) (by kernel_rfl) (by kernel_rfl) (BF os _)) ?_
 intro W base args ds gs before hval0 hW _ _ hL _
 have hval:∀(j:Nat) t v,Tryz.f7.params[j]?=some t→args[j]?=some v→Value.okWide Tryz.prog W .any base t v:=hval0
 have hW':=hW
 obtain⟨p,q,hA0,hV,rfl,hfz,hnd⟩:=hW
 have hA:DataW.TrodAll enc Tryz.prog W 0 (fun _=>true) true Tryz.f7.params.toList args.toList ds p:=hA0
 rw[Tryz.params7] at hA hval
 obtain⟨v0,d0,rfl,rfl,h0⟩:=trodAll_one hA
 obtain⟨rfl,rfl⟩:=trodVars_none hV
 obtain⟨s,rfl,rfl,rfl,ws⟩:=open_string Tryz.underlying9 (hval 0 9 v0 rfl rfl) h0
 clear hA0 hval0
 simp only[List.append_nil] at hW'
 obtain⟨k,m',hk⟩:=hI s.data.toList ws
 have ha:VRs (gh0 W) [.str s.data.toList] [.string s]:=VRs.cons (by obtain⟨⟨l⟩⟩:=s;exact .str _) VRs.nil
 refine (Aw (X:=ctx) (Cd k) Tryz.func7 (by kernel_rfl) (by kernel_rfl) hk (EG hL) ha).mono fun e W' ⟨he,bel⟩=>?_
 subst he
 refine⟨_,rfl,⟨_,_,_,[],[],[],hW',trodAll_mk1 (shut_bool Tryz.underlying4 _),trodAll_mk1 (shut_string Tryz.underlying9 ws),rfl,bel.frame _,fun h=>by cases h⟩⟩
theorem mz (hI:∀(s:List UInt8),s.length≤maxLen→∃k m',(sem tab ae k).call (.f 7) [.str s] ⟨[],0⟩=some (.bool true,m')):Rows.TextSettlesSaid :=
 OpenClaim.holds_of_wide 7 Tryz.f7 rfl rfl rfl rfl rfl rfl rfl ⟨rfl,rfl,rfl,rfl,rfl⟩ rfl rfl rfl rfl rfl (by kernel_rfl) Tryz.func7 (by kernel_rfl)
  (of_decide_eq_true (by kernel_rfl)) (by unfold Func.isWrapper;first | (rw[if_pos (by decide +kernel)];kernel_rfl) | (rw[if_neg (by decide +kernel)];exact⟨rfl,rfl⟩))
  (fun os started H enc _=>lZ hI os started H enc)
theorem nn (hI:∀(s:List UInt8),s.length≤maxLen→∃k m',(sem tab ae k).call (.f 7) [.str s] ⟨[],0⟩=some (.bool true,m')):Rows.TextSettlesCardSaid :=
 Claim7.holds_tied_plain_at .later [] [.data,.data,.funcs,.pinned] true (true, "e503061719a83ab20d2edd904d948c7a10fbbcd660fba6e1595d42424f680ddc") false
  (mz hI) (fun _ h=>by cases h) (by kernel_rfl) (fun _ h=>by cases h) textSettles_row_tie rfl ⟨rfl,rfl⟩ (by kernel_rfl) rfl
  (fun f fn hf hfn=>by
   obtain rfl:f=7:=Option.some.inj ((show Tryz.prog.funcNamed "bowline/bowlinelaw38.TextSettles" = some 7 by kernel_rfl).symm.trans hf) |>.symm
   obtain rfl:fn=Tryz.f7:=(Option.some.inj (Tryz.func7.symm.trans hfn)).symm
   exact⟨by kernel_rfl,fun j t ht=>by
    rw[Tryz.params7] at ht
    have hm:t∈[9]:=by simpa using Array.mem_of_getElem? ht
    have hall:([9].all fun u=>!Tryz.prog.wantsStandIn u)=true:=by kernel_rfl
    exact (show Tryz.prog.wantsStandIn t=false by simpa using List.all_eq_true.1 hall t hm)⟩)
  (by kernel_rfl)
end Go.Proofs.YtihkfdkoncekmaaGreatDoor
