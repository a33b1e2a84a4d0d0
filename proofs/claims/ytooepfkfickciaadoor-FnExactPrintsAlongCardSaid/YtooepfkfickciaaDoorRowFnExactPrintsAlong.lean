/-
  FnExactPrintsAlong of the package laws: called with any arguments, in whatever memory, the law's function returns true and leaves its arguments as they were. CONDITIONS: none beyond the row's own: the listed tables of the library hold what the program's text lays (the tie is given), and each string is within the reach of the form.
-/
import Derived.Test.YtooepfkfickciaaDoorF2
import Derived.Test.YtooepfkfickciaaDoorCards
import Derived.Test.YtooepfkfickciaaDoorTie
import Derived.SevenTiedAt
namespace Go.Proofs.YtooepfkfickciaaDoor
open Go.ChangeShapes Go.WideShapes Go.ChangeAt Go.RowKit

theorem ownFnExactPrintsAlong : ownKnob Tryd.prog.godebug = none := by kernel_rfl
set_option maxRecDepth 100000 in
theorem liftedFnExactPrintsAlong (os : Os) (started : os.Started) (H : Type) (enc : TypeId × Value → H) :
    ReturnsInHanded {} Tryd.checked os 5 .any (fun w args => (Rows.fnExactPrintsAlongSpec.pre enc Tryd.prog Tryd.f5 Rows.fnExactPrintsAlongRow.domain false w args ∧ laidMetH Tryd.prog Rows.fnExactPrintsAlongRow.laid w) ∧ sizedMet enc Tryd.prog Tryd.f5 (OpenSpec.ofChange Rows.fnExactPrintsAlongSpec) false w args)
      (Rows.fnExactPrintsAlongSpec.post enc Tryd.prog Tryd.f5 false true false false) := by
  refine returnsInHanded_of_change_and (C := Tryd.checked) (X := fun w _ => laidMetH Tryd.prog Rows.fnExactPrintsAlongRow.laid w) (fun _ _ _ hh h => h.of_heap hh) ownFnExactPrintsAlong started (by kernel_rfl) Tryd.func5
    (ChangeSpec.witness_shaped (enc := enc) (C := Tryd.checked) (os := os) (X := fun w _ => laidMetH Tryd.prog Rows.fnExactPrintsAlongRow.laid w) false (World.laidAll Tryd.prog os Rows.fnExactPrintsAlongRow.laid) #[.string ⟨#[]⟩, .agg #[.int .i64 0, .int .i64 0, .int .i64 0, .int .i64 0, .int .i64 0, .int .i64 0, .int .i64 0, .int .i64 0], .string ⟨#[]⟩] 8 (World.laidAll_os _ _ _)
      (World.shaped_of_ZipB (by kernel_rfl) (by kernel_rfl)) (by kernel_rfl) (by kernel_rfl) (by kernel_rfl)
      (by rw [MakeChecks.laidMetH_plain _ _ _ (by kernel_rfl)]; exact laidMet_laidAll _ (by kernel_rfl) (by kernel_rfl))) ?_
  intro W base args ds gs before hval hW _ _ _ _
  exact Ev.law_ends (tab := Ev.Tryd_tab) (us := [.s, Ev.tState, .s]) (tb := 4) (fun id t => Ev.ent_of Ev.Tryd_tab_ok) (by kernel_rfl) rfl (by kernel_rfl) Tryd.underlying4 rfl
    (fun ds hl => by
      match ds, hl with
      | [d0, d1, d2], _ => exact ⟨rfl, rfl, rfl⟩)
    (fun x hx => by
      obtain ⟨k, hk⟩ := Ev.pure_FnExactPrintsAlong x.1 x.2.1 x.2.2.1 hx.1 hx.2.1 hx.2.2.1
      exact Ev.lawCalls_of (Ev.la_FnExactPrintsAlong_c k) hk rfl) hval hW
theorem holdsFnExactPrintsAlong : Rows.FnExactPrintsAlongSaid :=
  OpenClaim.holds_of_wide 5 Tryd.f5 rfl rfl rfl rfl rfl rfl rfl ⟨rfl, rfl, rfl, rfl, rfl⟩ rfl rfl rfl rfl rfl (by kernel_rfl) Tryd.func5 (by kernel_rfl)
    (of_decide_eq_true (by kernel_rfl)) (by unfold Func.isWrapper; rw [if_neg (of_decide_eq_false (by kernel_rfl))]; exact ⟨rfl, rfl⟩)
    (fun os started H enc _ => liftedFnExactPrintsAlong os started H enc)
theorem cardFnExactPrintsAlong : Rows.FnExactPrintsAlongCardSaid :=
  Claim7.holds_tied_plain_at .later [] [.data, .pinned] true (true, "3fb4169fbd948f3e7b39591982978f0953418898af1d01dbf979d7c15dda6fbe") false holdsFnExactPrintsAlong (fun _ h => by cases h) (by kernel_rfl) (fun _ h => by cases h) fnExactPrintsAlong_row_tie rfl ⟨rfl, rfl⟩ (by kernel_rfl) rfl
    (fun f fn hf hfn => by
      obtain rfl : f = 5 := Option.some.inj ((show Tryd.prog.funcNamed "loop.example/g01207/laws.FnExactPrintsAlong" = some 5 by kernel_rfl).symm.trans hf) |>.symm
      obtain rfl : fn = Tryd.f5 := (Option.some.inj (Tryd.func5.symm.trans hfn)).symm
      exact ⟨by kernel_rfl, fun j t ht => by
        rw [Tryd.params5] at ht
        have hm : t ∈ [9, 25, 9] := by simpa using Array.mem_of_getElem? ht
        have hall : ([9, 25, 9].all fun u => !Tryd.prog.wantsStandIn u) = true := by kernel_rfl
        exact (show Tryd.prog.wantsStandIn t = false by simpa using List.all_eq_true.1 hall t hm)⟩)
    (by kernel_rfl)
end Go.Proofs.YtooepfkfickciaaDoor
