/-
  metewandlaw15.EvalElements returns true for every list of numbers: the row and its tied card; no condition but the row's own.
-/
import Derived.Test.YtcnhgomgppmeiaaGreatDoorERow
import Derived.Test.YtcnhgomgppmeiaaGreatDoorEFacts

noncomputable section
namespace Go.Proofs.YtcnhgomgppmeiaaGreatDoor
open Go Go.Ab Go.Ab.Dz Go.ChangeShapes Go.WideShapes Go.RowKit Go.Conc
set_option maxRecDepth 1000000

theorem evalElements_holds : Rows.EvalElementsSaid :=
  OpenClaim.holds_of_wide_leaving 4 Tryz.f4 rfl rfl rfl rfl rfl rfl rfl ⟨rfl, rfl, rfl, rfl, rfl⟩ rfl rfl rfl rfl rfl named4 Tryz.func4 closed inst4 wrap4
    (fun os started H enc _ => evalElements_lifted os started H enc)

theorem card_main : Tryz.prog.mainIs = some (true, "ad9374a0b84482f7802da27aaaec0c2a437985404e07a4df7f9ce8dbbae66b7d".toList) := by kernel_rfl
theorem card_wf : Rows.evalElementsRow.wfByText (OpenSpec.ofChange Rows.evalElementsSpec) = true := by kernel_rfl
theorem card_goes : Rows.evalElementsCard.goes = Rows.evalElementsRow.goesBy Tryz.prog := by kernel_rfl
theorem card_looks : true = Tryz.prog.looks [] := by kernel_rfl
theorem card_params : Tryz.f4.params = #[22] := by kernel_rfl
theorem card_stand : Tryz.prog.wantsStandIn 22 = false := by kernel_rfl
theorem card_func : Tryz.prog.funcNamed "metewand/metewandlaw15.EvalElements" = some 4 := by kernel_rfl

theorem evalElements_card : Rows.EvalElementsCardSaid := by
  refine ⟨Claim7.tied_new_at .later [.data, .data, .data, .data, .handle, .sentinel, .sentinel, .pinned] true (Claim7.new_of_sixth evalElements_holds (true, "ad9374a0b84482f7802da27aaaec0c2a437985404e07a4df7f9ce8dbbae66b7d") true rfl ⟨rfl, rfl⟩ card_main (by rfl)
    (fun f fn hf hfn => ?_)) card_wf, (fun _ h => by cases h), evalElements_row_tie, (fun h => by cases h), card_goes⟩
  obtain rfl : f = 4 := Option.some.inj (card_func.symm.trans hf) |>.symm
  obtain rfl : fn = Tryz.f4 := (Option.some.inj (Tryz.func4.symm.trans hfn)).symm
  refine ⟨card_looks, fun j t ht => ?_⟩
  rw [card_params] at ht
  cases j with
  | zero => simp at ht; subst ht; exact card_stand
  | succ j => simp at ht
#print axioms evalElements_card
end Go.Proofs.YtcnhgomgppmeiaaGreatDoor
end
