/- This text proves the card of TextChecks, on the condition that the interpreter returns true. -/
import Derived.Test.YtihkfdkoncekmaaGreatDoorIdj
import Derived.Test.YtihkfdkoncekmaaGreatDoorIdq
import Derived.ChangeMaps5
import Derived.Carry
set_option linter.unusedSimpArgs false
set_option linter.unusedVariables false
namespace Go.Proofs.YtihkfdkoncekmaaGreatDoor
open Go.ChangeMaps Go.Idl Go.Shelf Go.RowKit Go.ChangeShapes Go.WideShapes Go.ChangeAt Go.WideMaps Go.WideElems
theorem Ch {H:Type}{enc:TypeId×Value→H}{W:World}{v0:Value}{d0:DataW H}{p:List MemPlace}(h:DataW.Trod enc Tryz.prog W 0 (fun _=>true) true 38 v0 d0 p) (hl:ji Tryz.prog 38 d0) :
  ∃v c,bigV v∧ValR v c∧VR (gh0 W) (.agg c) v0:=by
 obtain⟨fuel,hd⟩:=h
 obtain⟨fs,hfs,hff⟩:∃fs,Tryz.prog.underlying 38=some (.struct fs)∧(([(3,0),(9,1),(30,2),(36,3)]:List (TypeId×Nat)).all fun y=>fs.toList.any fun f=>f.type==y.1&&f.offset==y.2)=true:=⟨_,Tryz.underlying38,by kernel_rfl⟩
 have hv:=Hq (H:=H) (enc:=enc) (P:=Tryz.prog) (w:=W) (base:=0) (held:=true) (tv:=38) (ti:=3) (ts:=9) (tk:=30) (tl:=36) hfs (by kernel_rfl) (fun y hy=>by
   have:=List.all_eq_true.1 hff y hy
   obtain⟨f,h1,h2⟩:=List.any_eq_true.1 this
   simp only[Bool.and_eq_true,beq_iff_eq] at h2
   exact⟨f,h1,h2.1,h2.2⟩) Tryz.underlying3 Tryz.underlying9 Tryz.underlying30 Tryz.underlying36 (by kernel_rfl) (by kernel_rfl) (by kernel_rfl) (by kernel_rfl) (of_decide_eq_true (by kernel_rfl)) (of_decide_eq_true (by kernel_rfl)) fuel _ _ hd hl
 obtain⟨v,c,hb,hc,hr⟩:=hv
 refine⟨v,c,hb,hc,?_⟩
 have hr:=hr (gh0 W) (fun _ _=>rfl)
 obtain⟨_,_,_,_,rfl,_⟩:=hc.cells
 have hl:=hr.1
 cases v0 with
 |agg cs =>
  obtain⟨l⟩:=cs
  exact .agg _ l hr.1 hr.2
 |_=>simp[Value.cells] at hl
set_option maxRecDepth 100000 in
theorem ni (hI:∀(v:Val) (c:List IV),bigV v→ValR v c→∃k m',(sem tab ae k).call (.f 5) [.agg c] ⟨[],0⟩=some (.bool true,m')) (os:Os) (started:os.Started) (H:Type) (enc:TypeId×Value→H) :
  ReturnsInHanded {} Tryz.checked os 5 .any (fun w args=>(Rows.textChecksSpec.pre enc Tryz.prog Tryz.f5 [] false w args∧laidMetH Tryz.prog xM w)∧sizedMet enc Tryz.prog Tryz.f5 (OpenSpec.ofChange Rows.textChecksSpec) false w args)
   (Rows.textChecksSpec.post enc Tryz.prog Tryz.f5 false true false false):=by
 refine returnsInHanded_of_change_and (C:=Tryz.checked) (X:=fun w _=>laidMetH Tryz.prog xM w) (fun _ _ _ hh h=>h.of_heap hh) own started (by kernel_rfl) Tryz.func5
  (ChangeSpec.witness_shaped (enc:=enc) (C:=Tryz.checked) (os:=os) (X:=fun w _=>laidMetH Tryz.prog xM w) false (wit os) #[.agg #[.int .i64 0,.string ⟨#[]⟩,.slice none 0 0,.slice none 0 0]] 8 (KI os) (shaped os _) (by kernel_rfl) (by kernel_rfl) (by kernel_rfl) (DL os _)) ?_
 intro W base args ds gs before _ hW _ hsz hL _
 have hW':=hW
 obtain⟨p,q,hA0,hV,rfl,hfz,hnd⟩:=hW
 have hA:DataW.TrodAll enc Tryz.prog W 0 (fun _=>true) true Tryz.f5.params.toList args.toList ds p:=hA0
 rw[Tryz.params5] at hA
 obtain⟨v0,d0,rfl,rfl,h0⟩:=trodAll_one hA
 obtain⟨rfl,rfl⟩:=trodVars_none hV
 have hlt:∀x∈p,x.block<W.heap.size:=fun x hx=>hW'.lt x (by simpa using hx)
 have hl:ji Tryz.prog 38 d0:=by
  intro n hn
  have h1:(DataW.weightsEach Tryz.prog [38] [d0]).all (·≤reachBytes)=true:=hsz
  have h2:=List.all_eq_true.1 h1 n (by unfold DataW.weightsEach;exact List.mem_append_left _ hn)
  simpa using h2
 obtain⟨v,c,hb,hc,hr⟩:=Ch h0 hl
 clear hA0
 simp only[List.append_nil] at hW'
 obtain⟨k,m',hk⟩:=hI v c hb hc
 have ha:VRs (gh0 W) [.agg c] [v0]:=VRs.cons hr VRs.nil
 refine (BU (X:=ctx) (Dc k) Tryz.func5 (by kernel_rfl) (by kernel_rfl) hk (Hu hL) ha).mono fun e W' ⟨he,bel⟩=>?_
 subst he
 refine⟨_,rfl,⟨_,_,_,[],p,[],hW',trodAll_mk1 (shut_bool Tryz.underlying4 _),?_,rfl,bel.frame _,fun h=>by cases h⟩⟩
 exact trodAll_mk1 (Below.trod (by kernel_rfl) (by kernel_rfl) (of_decide_eq_true (by kernel_rfl)) h0 bel hlt)
theorem nt (hI:∀(v:Val) (c:List IV),bigV v→ValR v c→∃k m',(sem tab ae k).call (.f 5) [.agg c] ⟨[],0⟩=some (.bool true,m')):Rows.TextChecksSaid :=
 OpenClaim.holds_of_wide 5 Tryz.f5 rfl rfl rfl rfl rfl rfl rfl ⟨rfl,rfl,rfl,rfl,rfl⟩ rfl rfl rfl rfl rfl (by kernel_rfl) Tryz.func5 (by kernel_rfl)
  (of_decide_eq_true (by kernel_rfl)) (by unfold Func.isWrapper;first | (rw[if_pos (by decide +kernel)];kernel_rfl) | (rw[if_neg (by decide +kernel)];exact⟨rfl,rfl⟩))
  (fun os started H enc _=>ni hI os started H enc)
theorem pz (hI:∀(v:Val) (c:List IV),bigV v→ValR v c→∃k m',(sem tab ae k).call (.f 5) [.agg c] ⟨[],0⟩=some (.bool true,m')):Rows.TextChecksCardSaid :=
 Claim7.holds_tied_plain_at .later [] [.data,.data,.funcs,.pinned] true (true, "e503061719a83ab20d2edd904d948c7a10fbbcd660fba6e1595d42424f680ddc") false
  (nt hI) (fun _ h=>by cases h) (by kernel_rfl) (fun _ h=>by cases h) textChecks_row_tie rfl ⟨rfl,rfl⟩ (by kernel_rfl) rfl
  (fun f fn hf hfn=>by
   obtain rfl:f=5:=Option.some.inj ((show Tryz.prog.funcNamed "bowline/bowlinelaw38.TextChecks" = some 5 by kernel_rfl).symm.trans hf) |>.symm
   obtain rfl:fn=Tryz.f5:=(Option.some.inj (Tryz.func5.symm.trans hfn)).symm
   exact⟨by kernel_rfl,fun j t ht=>by
    rw[Tryz.params5] at ht
    have hm:t∈[38]:=by simpa using Array.mem_of_getElem? ht
    have hall:([38].all fun u=>!Tryz.prog.wantsStandIn u)=true:=by kernel_rfl
    exact (show Tryz.prog.wantsStandIn t=false by simpa using List.all_eq_true.1 hall t hm)⟩)
  (by kernel_rfl)
end Go.Proofs.YtihkfdkoncekmaaGreatDoor
