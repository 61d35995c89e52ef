/- This text proves the card of TextReturns, on the condition that the interpreter returns true. -/
import Derived.Test.YtihkfdkoncekmaaGreatDoorIdj
import Derived.Test.YtihkfdkoncekmaaGreatDoorIdq
import Derived.ChangeMaps5
import Derived.Carry
set_option linter.unusedVariables false
namespace Go.Proofs.YtihkfdkoncekmaaGreatDoor
open Go.ChangeMaps Go.Idl Go.Shelf Go.RowKit Go.ChangeShapes Go.WideShapes Go.ChangeAt Go.WideMaps Go.WideElems
theorem H8 {H:Type}{enc:TypeId×Value→H}{W:World}{v0:Value}{d0:DataW H}{p:List MemPlace}(h:DataW.Trod enc Tryz.prog W 0 (fun _=>true) true 38 v0 d0 p) (hl:nN Tryz.prog 38 d0) :
  ∃v c,ql v∧gh v c∧VR (Ib W) (.agg c) v0:=by
 obtain⟨fuel,hd⟩:=h;obtain⟨fs,hfs,hff⟩:∃fs,Tryz.prog.underlying 38=some (.struct fs)∧(([(3,0),(9,1),(30,2),(36,3)]:List (TypeId×Nat)).all fun y=>fs.toList.any fun f=>f.type==y.1&&f.offset==y.2)=true:=⟨_,Tryz.underlying38,by kernel_rfl⟩
 have hv:=Ox (H:=H) (enc:=enc) (P:=Tryz.prog) (w:=W) (base:=0) (held:=true) (tv:=38) (ti:=3) (ts:=9) (tk:=30) (tl:=36) hfs (by kernel_rfl) (fun y hy=>by
   have:=List.all_eq_true.1 hff y hy;obtain⟨f,h1,h2⟩:=List.any_eq_true.1 this;simp only[Bool.and_eq_true,beq_iff_eq] at h2;exact⟨f,h1,h2.1,h2.2⟩) Tryz.underlying3 Tryz.underlying9 Tryz.underlying30 Tryz.underlying36 (by kernel_rfl) (by kernel_rfl) (by kernel_rfl) (by kernel_rfl) (of_decide_eq_true (by kernel_rfl)) (of_decide_eq_true (by kernel_rfl)) fuel _ _ hd hl
 obtain⟨v,c,hb,hc,hr⟩:=hv;refine⟨v,c,hb,hc,?_⟩;have hr:=hr (Ib W) (fun _ _=>rfl);obtain⟨_,_,_,_,rfl,_⟩:=hc.cells;have hl:=hr.1
 cases v0 with
 |agg cs =>obtain⟨l⟩:=cs;exact .agg _ l hr.1 hr.2
 |_=>simp[Value.cells] at hl
set_option maxRecDepth 100000 in
theorem qQ (hI:∀(v:dL) (c:List IV) (n:Int),ql v→gh v c→∃k m',(jc da al k).call (.f 6) [.agg c,.int .i64 n] ⟨[],0⟩=some (.bool true,m')) (os:Os) (started:os.Started) (H:Type) (enc:TypeId×Value→H) :
  ReturnsInHanded {} Tryz.checked os 6 .any (fun w args=>(Rows.textReturnsSpec.pre enc Tryz.prog Tryz.f6 [] false w args∧laidMetH Tryz.prog Cv w)∧sizedMet enc Tryz.prog Tryz.f6 (OpenSpec.ofChange Rows.textReturnsSpec) false w args)
   (Rows.textReturnsSpec.post enc Tryz.prog Tryz.f6 false true false false):=by
 refine returnsInHanded_of_change_and (C:=Tryz.checked) (X:=fun w _=>laidMetH Tryz.prog Cv w) (fun _ _ _ hh h=>h.of_heap hh) own started (by kernel_rfl) Tryz.func6
  (ChangeSpec.witness_shaped (enc:=enc) (C:=Tryz.checked) (os:=os) (X:=fun w _=>laidMetH Tryz.prog Cv w) false (V5 os) #[.agg #[.int .i64 0,.string ⟨#[]⟩,.slice none 0 0,.slice none 0 0],.int .i64 0] 8 (SU os) (shaped os _) (by kernel_rfl) (by kernel_rfl) (by kernel_rfl) (JG os _)) ?_
 intro W base args ds gs before hval0 hW _ hsz hL _;have hval:∀(j:Nat) t v,Tryz.f6.params[j]?=some t→args[j]?=some v→Value.okWide Tryz.prog W .any base t v:=hval0;have hW':=hW;obtain⟨p,q,hA0,hV,rfl,hfz,hnd⟩:=hW;have hA:DataW.TrodAll enc Tryz.prog W 0 (fun _=>true) true Tryz.f6.params.toList args.toList ds p:=hA0;rw[Tryz.params6] at hA hval;obtain⟨v0,v1,d0,d1,p0,p1,rfl,rfl,rfl,h0,h1⟩:=trodAll_two hA;obtain⟨rfl,rfl⟩:=trodVars_none hV;obtain⟨n,rfl,rfl,rfl,wn⟩:=open_int Tryz.underlying3 (hval 1 3 v1 rfl rfl) h1;have hlt:∀x∈p0,x.block<W.heap.size:=fun x hx=>hW'.lt x (by simpa using hx);have hl:nN Tryz.prog 38 d0:=by intro x hx;have h1:(DataW.weightsEach Tryz.prog [38,3] [d0,.lit (.int .i64 n)]).all (·≤reachBytes)=true:=hsz;have h2:=List.all_eq_true.1 h1 x (by unfold DataW.weightsEach;exact List.mem_append_left _ hx);simpa using h2
 obtain⟨v,c,hb,hc,hr⟩:=H8 h0 hl;clear hA0 hval0;simp only[List.append_nil] at hW';obtain⟨k,m',hk⟩:=hI v c n hb hc;have ha:c9 (Ib W) [.agg c,.int .i64 n] [v0,.int .i64 n]:=c9.cons hr (c9.cons (.int _ _) c9.nil);refine (HD (X:=ctx) (Jr k) Tryz.func6 (by kernel_rfl) (by kernel_rfl) hk (Oj hL) ha).mono fun e W' ⟨he,bel⟩=>?_;subst he;refine⟨_,rfl,⟨_,_,_,[],p0++[],[],hW',trodAll_mk1 (shut_bool Tryz.underlying4 _),?_,rfl,bel.frame _,fun h=>by cases h⟩⟩;exact trodAll_mk2 (Below.trod (by kernel_rfl) (by kernel_rfl) (of_decide_eq_true (by kernel_rfl)) h0 bel hlt) (shut_int Tryz.underlying3 wn)
theorem r9 (hI:∀(v:dL) (c:List IV) (n:Int),ql v→gh v c→∃k m',(jc da al k).call (.f 6) [.agg c,.int .i64 n] ⟨[],0⟩=some (.bool true,m')):Rows.TextReturnsSaid :=
 OpenClaim.holds_of_wide 6 Tryz.f6 rfl rfl rfl rfl rfl rfl rfl ⟨rfl,rfl,rfl,rfl,rfl⟩ rfl rfl rfl rfl rfl (by kernel_rfl) Tryz.func6 (by kernel_rfl)
  (of_decide_eq_true (by kernel_rfl)) (by unfold Func.isWrapper;first | (rw[if_pos (by decide +kernel)];kernel_rfl) | (rw[if_neg (by decide +kernel)];exact⟨rfl,rfl⟩))
  (fun os started H enc _=>qQ hI os started H enc)
theorem tx (hI:∀(v:dL) (c:List IV) (n:Int),ql v→gh v c→∃k m',(jc da al k).call (.f 6) [.agg c,.int .i64 n] ⟨[],0⟩=some (.bool true,m')):Rows.TextReturnsCardSaid :=
 Claim7.holds_tied_plain_at .later [] [.data,.data,.funcs,.pinned] true (true, "e503061719a83ab20d2edd904d948c7a10fbbcd660fba6e1595d42424f680ddc") false
  (r9 hI) (fun _ h=>by cases h) (by kernel_rfl) (fun _ h=>by cases h) textReturns_row_tie rfl ⟨rfl,rfl⟩ (by kernel_rfl) rfl
  (fun f fn hf hfn=>by
   obtain rfl:f=6:=Option.some.inj ((show Tryz.prog.funcNamed "bowline/bowlinelaw38.TextReturns" = some 6 by kernel_rfl).symm.trans hf) |>.symm;obtain rfl:fn=Tryz.f6:=(Option.some.inj (Tryz.func6.symm.trans hfn)).symm;exact⟨by kernel_rfl,fun j t ht=>by
    rw[Tryz.params6] at ht;have hm:t∈[38,3]:=by simpa using Array.mem_of_getElem? ht
    have hall:([38,3].all fun u=>!Tryz.prog.wantsStandIn u)=true:=by kernel_rfl
    exact (show Tryz.prog.wantsStandIn t=false by simpa using List.all_eq_true.1 hall t hm)⟩)
  (by kernel_rfl)
end Go.Proofs.YtihkfdkoncekmaaGreatDoor
