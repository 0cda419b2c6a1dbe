/-
  metewandlaw15.EvalKnown returns true on every schedule: the row and its tied card; no condition but the row's own.
-/
import Derived.Test.YtlohilpdnfgfmaaGreatDoorRow
import Derived.Test.YtlohilpdnfgfmaaGreatDoorFacts

namespace Go.Proofs.YtlohilpdnfgfmaaGreatDoor
open Go Go.Ab Go.Ab.Tz Go.ChangeShapes Go.WideShapes Go.RowKit Go.Conc
set_option maxRecDepth 1000000

theorem evalKnown_holds : Rows.EvalKnownSaid :=
  OpenClaim.holds_of_wide_leaving 6 Tryz.f6 rfl rfl rfl rfl rfl rfl rfl ⟨rfl, rfl, rfl, rfl, rfl⟩ rfl rfl rfl rfl rfl named6 Tryz.func6 closed inst6 wrap6
    (fun os started H enc _ => evalKnown_lifted os started H enc)
end Go.Proofs.YtlohilpdnfgfmaaGreatDoor

namespace Go.Proofs.YtlohilpdnfgfmaaGreatDoor
open Go Go.Ab Go.Ab.Tz Go.ChangeShapes Go.WideShapes Go.RowKit Go.Conc
set_option maxRecDepth 1000000

theorem card_main : Tryz.prog.mainIs = some (true, "84f93952139cda033b3bb55a1d4f053a1227a6889152172357146f412803a79a".toList) := by kernel_rfl
theorem card_wf : Rows.evalKnownRow.wfByText (OpenSpec.ofChange Rows.evalKnownSpec) = true := by kernel_rfl
theorem card_goes : Rows.evalKnownCard.goes = Rows.evalKnownRow.goesBy Tryz.prog := by kernel_rfl
theorem card_looks : true = Tryz.prog.looks [] := by kernel_rfl
theorem card_params : Tryz.f6.params = #[] := by kernel_rfl
theorem card_func : Tryz.prog.funcNamed "metewand/metewandlaw15.EvalKnown" = some 6 := by kernel_rfl

theorem evalKnown_card : Rows.EvalKnownCardSaid := by
  refine ⟨Claim7.tied_new_at .later [.data, .data, .data, .data, .handle, .sentinel, .sentinel, .pinned] true (Claim7.new_of_sixth evalKnown_holds (true, "84f93952139cda033b3bb55a1d4f053a1227a6889152172357146f412803a79a") true rfl ⟨rfl, rfl⟩ card_main (by rfl)
    (fun f fn hf hfn => ?_)) card_wf, (fun _ h => by cases h), evalKnown_row_tie, (fun h => by cases h), card_goes⟩
  obtain rfl : f = 6 := Option.some.inj (card_func.symm.trans hf) |>.symm
  obtain rfl : fn = Tryz.f6 := (Option.some.inj (Tryz.func6.symm.trans hfn)).symm
  exact ⟨card_looks, fun j t ht => by
    rw [card_params] at ht
    simp at ht⟩
#print axioms evalKnown_card
end Go.Proofs.YtlohilpdnfgfmaaGreatDoor
