/-
  FnExactSolutionOf of the package laws: called with any arguments, in whatever memory, the law's function returns true and leaves its arguments as they were. CONDITIONS: none beyond the row's own: the listed tables of the library hold what the program's text lays (the tie is given), and each string is within the reach of the form.
-/
import Derived.Test.YtabochgibgolgaaDoorF2
import Derived.Test.YtabochgibgolgaaDoorCards
import Derived.Test.YtabochgibgolgaaDoorTie
import Derived.SevenTiedAt
namespace Go.Proofs.YtabochgibgolgaaDoor
open Go.ChangeShapes Go.WideShapes Go.ChangeAt Go.RowKit

theorem ownFnExactSolutionOf : ownKnob Tryd.prog.godebug = none := by kernel_rfl
set_option maxRecDepth 100000 in
theorem liftedFnExactSolutionOf (os : Os) (started : os.Started) (H : Type) (enc : TypeId × Value → H) :
    ReturnsInHanded {} Tryd.checked os 12 .any (fun w args => (Rows.fnExactSolutionOfSpec.pre enc Tryd.prog Tryd.f12 Rows.fnExactSolutionOfRow.domain false w args ∧ laidMetH Tryd.prog Rows.fnExactSolutionOfRow.laid w) ∧ sizedMet enc Tryd.prog Tryd.f12 (OpenSpec.ofChange Rows.fnExactSolutionOfSpec) false w args)
      (Rows.fnExactSolutionOfSpec.post enc Tryd.prog Tryd.f12 false true false false) := by
  refine returnsInHanded_of_change_and (C := Tryd.checked) (X := fun w _ => laidMetH Tryd.prog Rows.fnExactSolutionOfRow.laid w) (fun _ _ _ hh h => h.of_heap hh) ownFnExactSolutionOf started (by kernel_rfl) Tryd.func12
    (ChangeSpec.witness_shaped (enc := enc) (C := Tryd.checked) (os := os) (X := fun w _ => laidMetH Tryd.prog Rows.fnExactSolutionOfRow.laid w) false (World.laidAll Tryd.prog os Rows.fnExactSolutionOfRow.laid) #[.agg #[.string ⟨#[]⟩, .int .i64 0, .int .i64 0, .int .i64 0, .int .i64 0, .int .i64 0, .int .i64 0, .int .i64 0, .int .i64 0, .int .i64 0, .int .i64 0, .int .i64 0]] 8 (World.laidAll_os _ _ _)
      (World.shaped_of_ZipB (by kernel_rfl) (by kernel_rfl)) (by kernel_rfl) (by kernel_rfl) (by kernel_rfl)
      (by rw [MakeChecks.laidMetH_plain _ _ _ (by kernel_rfl)]; exact laidMet_laidAll _ (by kernel_rfl) (by kernel_rfl))) ?_
  intro W base args ds gs before hval hW _ _ _ _
  exact Ev.law_ends (tab := Ev.Tryd_tab) (us := [Ev.tPuzzle]) (tb := 4) (fun id t => Ev.ent_of Ev.Tryd_tab_ok) (by kernel_rfl) rfl (by kernel_rfl) Tryd.underlying4 rfl
    (fun ds hl => by
      match ds, hl with
      | [d0], _ => exact ⟨rfl, rfl, rfl⟩)
    (fun x hx => by
      obtain ⟨k, hk⟩ := Ev.pure_FnExactSolutionOf x.1 hx.1
      exact Ev.lawCalls_of (Ev.la_FnExactSolutionOf_c k) hk rfl) hval hW
theorem holdsFnExactSolutionOf : Rows.FnExactSolutionOfSaid :=
  OpenClaim.holds_of_wide 12 Tryd.f12 rfl rfl rfl rfl rfl rfl rfl ⟨rfl, rfl, rfl, rfl, rfl⟩ rfl rfl rfl rfl rfl (by kernel_rfl) Tryd.func12 (by kernel_rfl)
    (of_decide_eq_true (by kernel_rfl)) (by unfold Func.isWrapper; rw [if_neg (of_decide_eq_false (by kernel_rfl))]; exact ⟨rfl, rfl⟩)
    (fun os started H enc _ => liftedFnExactSolutionOf os started H enc)
theorem cardFnExactSolutionOf : Rows.FnExactSolutionOfCardSaid :=
  Claim7.holds_tied_plain_at .later [] [.data, .pinned] true (true, "34ccf4448afbe3f282e4844d47803679ffed61f251d36fc1446e5bc9941442e8") false holdsFnExactSolutionOf (fun _ h => by cases h) (by kernel_rfl) (fun _ h => by cases h) fnExactSolutionOf_row_tie rfl ⟨rfl, rfl⟩ (by kernel_rfl) rfl
    (fun f fn hf hfn => by
      obtain rfl : f = 12 := Option.some.inj ((show Tryd.prog.funcNamed "loop.example/g01207/laws.FnExactSolutionOf" = some 12 by kernel_rfl).symm.trans hf) |>.symm
      obtain rfl : fn = Tryd.f12 := (Option.some.inj (Tryd.func12.symm.trans hfn)).symm
      exact ⟨by kernel_rfl, fun j t ht => by
        rw [Tryd.params12] at ht
        have hm : t ∈ [38] := by simpa using Array.mem_of_getElem? ht
        have hall : ([38].all fun u => !Tryd.prog.wantsStandIn u) = true := by kernel_rfl
        exact (show Tryd.prog.wantsStandIn t = false by simpa using List.all_eq_true.1 hall t hm)⟩)
    (by kernel_rfl)
end Go.Proofs.YtabochgibgolgaaDoor
