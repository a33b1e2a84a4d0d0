/-
  FnExactTurnGround of the package laws: called with any arguments, in whatever memory, the law's function returns true and leaves its arguments as they were. CONDITIONS: none beyond the row's own: the listed tables of the library hold what the program's text lays (the tie is given), and each string is within the reach of the form.
-/
import Derived.Test.YtabochgibgolgaaDoorF1
import Derived.Test.YtabochgibgolgaaDoorCards
import Derived.Test.YtabochgibgolgaaDoorTie
import Derived.SevenTiedAt
namespace Go.Proofs.YtabochgibgolgaaDoor
open Go.ChangeShapes Go.WideShapes Go.ChangeAt Go.RowKit

theorem ownFnExactTurnGround : ownKnob Tryd.prog.godebug = none := by kernel_rfl
set_option maxRecDepth 100000 in
theorem liftedFnExactTurnGround (os : Os) (started : os.Started) (H : Type) (enc : TypeId × Value → H) :
    ReturnsInHanded {} Tryd.checked os 6 .any (fun w args => (Rows.fnExactTurnGroundSpec.pre enc Tryd.prog Tryd.f6 Rows.fnExactTurnGroundRow.domain false w args ∧ laidMetH Tryd.prog Rows.fnExactTurnGroundRow.laid w) ∧ sizedMet enc Tryd.prog Tryd.f6 (OpenSpec.ofChange Rows.fnExactTurnGroundSpec) false w args)
      (Rows.fnExactTurnGroundSpec.post enc Tryd.prog Tryd.f6 false true false false) := by
  refine returnsInHanded_of_change_and (C := Tryd.checked) (X := fun w _ => laidMetH Tryd.prog Rows.fnExactTurnGroundRow.laid w) (fun _ _ _ hh h => h.of_heap hh) ownFnExactTurnGround started (by kernel_rfl) Tryd.func6
    (ChangeSpec.witness_shaped (enc := enc) (C := Tryd.checked) (os := os) (X := fun w _ => laidMetH Tryd.prog Rows.fnExactTurnGroundRow.laid w) false (World.laidAll Tryd.prog os Rows.fnExactTurnGroundRow.laid) #[.string ⟨#[]⟩] 8 (World.laidAll_os _ _ _)
      (World.shaped_of_ZipB (by kernel_rfl) (by kernel_rfl)) (by kernel_rfl) (by kernel_rfl) (by kernel_rfl)
      (by rw [MakeChecks.laidMetH_plain _ _ _ (by kernel_rfl)]; exact laidMet_laidAll _ (by kernel_rfl) (by kernel_rfl))) ?_
  intro W base args ds gs before hval hW _ _ _ _
  exact Ev.law_ends (tab := Ev.Tryd_tab) (us := [.s]) (tb := 4) (fun id t => Ev.ent_of Ev.Tryd_tab_ok) (by kernel_rfl) rfl (by kernel_rfl) Tryd.underlying4 rfl
    (fun ds hl => by
      match ds, hl with
      | [d0], _ => exact ⟨rfl, rfl, rfl⟩)
    (fun x hx => by
      obtain ⟨k, hk⟩ := Ev.pure_FnExactTurnGround x.1 hx.1
      exact Ev.lawCalls_of (Ev.la_FnExactTurnGround_c k) hk rfl) hval hW
theorem holdsFnExactTurnGround : Rows.FnExactTurnGroundSaid :=
  OpenClaim.holds_of_wide 6 Tryd.f6 rfl rfl rfl rfl rfl rfl rfl ⟨rfl, rfl, rfl, rfl, rfl⟩ rfl rfl rfl rfl rfl (by kernel_rfl) Tryd.func6 (by kernel_rfl)
    (of_decide_eq_true (by kernel_rfl)) (by unfold Func.isWrapper; rw [if_neg (of_decide_eq_false (by kernel_rfl))]; exact ⟨rfl, rfl⟩)
    (fun os started H enc _ => liftedFnExactTurnGround os started H enc)
theorem cardFnExactTurnGround : Rows.FnExactTurnGroundCardSaid :=
  Claim7.holds_tied_plain_at .later [] [.data, .pinned] true (true, "34ccf4448afbe3f282e4844d47803679ffed61f251d36fc1446e5bc9941442e8") false holdsFnExactTurnGround (fun _ h => by cases h) (by kernel_rfl) (fun _ h => by cases h) fnExactTurnGround_row_tie rfl ⟨rfl, rfl⟩ (by kernel_rfl) rfl
    (fun f fn hf hfn => by
      obtain rfl : f = 6 := Option.some.inj ((show Tryd.prog.funcNamed "loop.example/g01207/laws.FnExactTurnGround" = some 6 by kernel_rfl).symm.trans hf) |>.symm
      obtain rfl : fn = Tryd.f6 := (Option.some.inj (Tryd.func6.symm.trans hfn)).symm
      exact ⟨by kernel_rfl, fun j t ht => by
        rw [Tryd.params6] at ht
        have hm : t ∈ [9] := by simpa using Array.mem_of_getElem? ht
        have hall : ([9].all fun u => !Tryd.prog.wantsStandIn u) = true := by kernel_rfl
        exact (show Tryd.prog.wantsStandIn t = false by simpa using List.all_eq_true.1 hall t hm)⟩)
    (by kernel_rfl)
end Go.Proofs.YtabochgibgolgaaDoor
