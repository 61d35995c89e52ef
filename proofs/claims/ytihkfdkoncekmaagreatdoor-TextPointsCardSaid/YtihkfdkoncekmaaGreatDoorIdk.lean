/- This text proves the card of TextPoints, on the condition that the interpreter returns true. -/
import Derived.Test.YtihkfdkoncekmaaGreatDoorIdj
import Derived.ChangeMaps5

set_option linter.unusedSimpArgs false
set_option linter.unusedVariables false

namespace Go.Proofs.YtihkfdkoncekmaaGreatDoor
open Go.ChangeMaps Go.Idl Go.Shelf Go.RowKit Go.ChangeShapes Go.WideShapes Go.ChangeAt Go.WideMaps Go.WideElems

set_option maxRecDepth 100000 in
theorem points_lifted (hI : ∀ (n : Int) (s : List UInt8), (Lit.int .i64 n).wf = true → s.length ≤ maxLen → ∃ k m', (sem tab prims k).call (.f 8) [.int .i64 n, .str s] ⟨[], 0⟩ = some (.bool true, m')) (os : Os) (started : os.Started) (H : Type) (enc : TypeId × Value → H) :
    ReturnsInHanded {} Tryz.checked os 8 .any (fun w args => (Rows.textPointsSpec.pre enc Tryz.prog Tryz.f8 [] false w args ∧ laidMetH Tryz.prog laidL w) ∧ sizedMet enc Tryz.prog Tryz.f8 (OpenSpec.ofChange Rows.textPointsSpec) false w args)
      (Rows.textPointsSpec.post enc Tryz.prog Tryz.f8 false true false false) := by
  refine returnsInHanded_of_change_and (C := Tryz.checked) (X := fun w _ => laidMetH Tryz.prog laidL w) (fun _ _ _ hh h => h.of_heap hh) own started (by kernel_rfl) Tryz.func8
    (ChangeSpec.witness_shaped (enc := enc) (C := Tryz.checked) (os := os) (X := fun w _ => laidMetH Tryz.prog laidL w) false (wit os) #[.int .i64 0, .string ⟨#[]⟩] 8 (wit_os os) (shaped os _) (by kernel_rfl) (by kernel_rfl) (by kernel_rfl) (door_met os _)) ?_
  intro W base args ds gs before hval0 hW _ _ hL _
  have hval : ∀ (j : Nat) t v, Tryz.f8.params[j]? = some t → args[j]? = some v → Value.okWide Tryz.prog W .any base t v := hval0
  have hW' := hW
  obtain ⟨p, q, hA0, hV, rfl, hfz, hnd⟩ := hW
  have hA : DataW.TrodAll enc Tryz.prog W 0 (fun _ => true) true Tryz.f8.params.toList args.toList ds p := hA0
  rw [Tryz.params8] at hA hval
  obtain ⟨v0, v1, d0, d1, p0, p1, rfl, rfl, rfl, h0, h1⟩ := trodAll_two hA
  obtain ⟨rfl, rfl⟩ := trodVars_none hV
  obtain ⟨n, rfl, rfl, rfl, wn⟩ := open_int Tryz.underlying3 (hval 0 3 v0 rfl rfl) h0
  obtain ⟨s, rfl, rfl, rfl, ws⟩ := open_string Tryz.underlying9 (hval 1 9 v1 rfl rfl) h1
  clear hA0 hval0
  simp only [List.append_nil] at hW'
  obtain ⟨k, m', hk⟩ := hI n s.data.toList wn ws
  have ha : VRs (gh0 W) [.int .i64 n, .str s.data.toList] [.int .i64 n, .string s] := VRs.cons (.int _ _) (VRs.cons (by obtain ⟨⟨l⟩⟩ := s; exact .str _) VRs.nil)
  refine (law_calls (X := ctx) (calls_ok k) Tryz.func8 (by kernel_rfl) (by kernel_rfl) hk (rows_at hL) ha).mono fun e W' ⟨he, bel⟩ => ?_
  subst he
  refine ⟨_, rfl, ⟨_, _, _, [], [], [], hW', trodAll_mk1 (shut_bool Tryz.underlying4 _), trodAll_mk2 (shut_int Tryz.underlying3 wn) (shut_string Tryz.underlying9 ws), rfl, bel.frame _, fun h => by cases h⟩⟩

theorem points_holds (hI : ∀ (n : Int) (s : List UInt8), (Lit.int .i64 n).wf = true → s.length ≤ maxLen → ∃ k m', (sem tab prims k).call (.f 8) [.int .i64 n, .str s] ⟨[], 0⟩ = some (.bool true, m')) : Rows.TextPointsSaid :=
  OpenClaim.holds_of_wide 8 Tryz.f8 rfl rfl rfl rfl rfl rfl rfl ⟨rfl, rfl, rfl, rfl, rfl⟩ rfl rfl rfl rfl rfl (by kernel_rfl) Tryz.func8 (by kernel_rfl)
    (of_decide_eq_true (by kernel_rfl)) (by unfold Func.isWrapper; first | (rw [if_pos (by decide +kernel)]; kernel_rfl) | (rw [if_neg (by decide +kernel)]; exact ⟨rfl, rfl⟩))
    (fun os started H enc _ => points_lifted hI os started H enc)

theorem points_card (hI : ∀ (n : Int) (s : List UInt8), (Lit.int .i64 n).wf = true → s.length ≤ maxLen → ∃ k m', (sem tab prims k).call (.f 8) [.int .i64 n, .str s] ⟨[], 0⟩ = some (.bool true, m')) : Rows.TextPointsCardSaid :=
  Claim7.holds_tied_plain_at .later [] [.data, .data, .funcs, .pinned] true (true, "e503061719a83ab20d2edd904d948c7a10fbbcd660fba6e1595d42424f680ddc") false
    (points_holds hI) (fun _ h => by cases h) (by kernel_rfl) (fun _ h => by cases h) textPoints_row_tie rfl ⟨rfl, rfl⟩ (by kernel_rfl) rfl
    (fun f fn hf hfn => by
      obtain rfl : f = 8 := Option.some.inj ((show Tryz.prog.funcNamed "bowline/bowlinelaw38.TextPoints" = some 8 by kernel_rfl).symm.trans hf) |>.symm
      obtain rfl : fn = Tryz.f8 := (Option.some.inj (Tryz.func8.symm.trans hfn)).symm
      exact ⟨by kernel_rfl, fun j t ht => by
        rw [Tryz.params8] at ht
        have hm : t ∈ [3, 9] := by simpa using Array.mem_of_getElem? ht
        have hall : ([3, 9].all fun u => !Tryz.prog.wantsStandIn u) = true := by kernel_rfl
        exact (show Tryz.prog.wantsStandIn t = false by simpa using List.all_eq_true.1 hall t hm)⟩)
    (by kernel_rfl)
end Go.Proofs.YtihkfdkoncekmaaGreatDoor
