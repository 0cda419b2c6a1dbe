/-
  The closed facts of metewandlaw15.EvalElements's row; no condition.
-/
import Derived.Test.YtcnhgomgppmeiaaGreatDoorRows
import Derived.JoinedOf
import Derived.KernelRfl

noncomputable section
namespace Go.Proofs.YtcnhgomgppmeiaaGreatDoor
open Go
set_option maxRecDepth 1000000

theorem cf0 : (Rows.evalElementsRow.wf (OpenSpec.ofChange Rows.evalElementsSpec)) = true := by kernel_rfl
theorem cf1 : (laidOutB Tryz.prog) = true := by kernel_rfl
theorem cf2 : (mapsRowed Tryz.prog) = true := by kernel_rfl
theorem cf3 : (Tryz.f4.params.all (Tryz.prog.readableRec ·)) = true := by kernel_rfl
theorem cf4 : (namedTie Tryz.prog Rows.evalElementsRow.named Rows.evalElementsSpec.vars) = true := by kernel_rfl
theorem cf5 : ((Rows.evalElementsRow.stops == [])) = true := by kernel_rfl
theorem cf6 : ((Tryz.prog.stops == [])) = true := by kernel_rfl
theorem cf7 : ((Rows.evalElementsRow.knobs == [])) = true := by kernel_rfl
theorem cf8 : ((Tryz.prog.stopKnobs == [])) = true := by kernel_rfl
theorem cf9 : ((Rows.evalElementsRow.inPlace == Tryz.prog.inPlace 4)) = true := by kernel_rfl
theorem cf10 : ((Rows.evalElementsRow.unfollowed == Tryz.prog.unfollowed 4)) = true := by kernel_rfl
theorem cf11 : ((Rows.evalElementsRow.recurses == Tryz.prog.recurses 4)) = true := by kernel_rfl
theorem cf12 : ((Rows.evalElementsRow.named == Tryz.prog.varsNamed 4)) = true := by kernel_rfl
theorem cf13 : ((Rows.evalElementsRow.maps == (Tryz.f4.params.toList ++ Rows.evalElementsSpec.plain.varTypes Tryz.prog).any (Tryz.prog.mapsRec ·))) = true := by kernel_rfl
theorem cf14 : ((Rows.evalElementsRow.ifaces == (Tryz.f4.params.toList ++ Rows.evalElementsSpec.plain.varTypes Tryz.prog).any (Tryz.prog.ifacesRec ·))) = true := by kernel_rfl
theorem cf15 : ((Rows.evalElementsRow.mapsOut == Tryz.prog.mapsAmong Tryz.f4.resultTypes.toList)) = true := by kernel_rfl
theorem cf16 : ((Rows.evalElementsRow.loops == (Tryz.f4.params.toList ++ Rows.evalElementsSpec.plain.varTypes Tryz.prog).any (Tryz.prog.loopsFrom ·))) = true := by kernel_rfl
theorem cf17 : ((Rows.evalElementsRow.wideKeys == (Tryz.f4.params.toList ++ Rows.evalElementsSpec.plain.varTypes Tryz.prog ++ Tryz.f4.resultTypes.toList).any (Tryz.prog.wideKeysFrom ·))) = true := by kernel_rfl
theorem cf18 : (Rows.evalElementsSpec.vars.all (Tryz.prog.varReadable ·)) = true := by kernel_rfl
theorem cf19 : (Tryz.f4.resultTypes.all (fun t => Tryz.prog.readableRec t && decide (t < Tryz.prog.types.size))) = true := by kernel_rfl
theorem cf20 : ((Rows.evalElementsRow.ifacesOut == Tryz.f4.resultTypes.toList.any (Tryz.prog.ifacesRec ·))) = true := by kernel_rfl
theorem cf21 : ((Rows.evalElementsRow.loopsOut == Tryz.f4.resultTypes.toList.any (Tryz.prog.loopsFrom ·))) = true := by kernel_rfl
theorem cf22 : ((Rows.evalElementsRow.plainKeys == Tryz.prog.plainKeys)) = true := by kernel_rfl
theorem cf23 : (Rows.evalElementsRow.shortTexts.isNone) = true := by kernel_rfl
theorem cf24 : (Tryz.prog.stopsHeard) = true := by kernel_rfl
theorem cf25 : (Tryz.prog.mayEnter) = true := by kernel_rfl
theorem cf26 : ((Rows.evalElementsRow.lifted == Tryz.prog.liftsFinal)) = true := by kernel_rfl
theorem cf27 : ((Tryz.prog.make == some Rows.evalElementsRow.make)) = true := by kernel_rfl
theorem cf28 : ((Rows.evalElementsRow.kinds == (if Rows.evalElementsRow.domain.isEmpty then [] else Tryz.f4.params.toList.map fun t => match Tryz.prog.underlying t with | some (.int k) => some k | _ => none))) = true := by kernel_rfl
theorem cf29 : ((Rows.evalElementsRow.pinned == Rows.evalElementsRow.pinnedBy)) = true := by kernel_rfl
theorem cf30 : ((Rows.evalElementsRow.veiled == (Tryz.f4.params.toList ++ Rows.evalElementsSpec.plain.varTypes Tryz.prog ++ Tryz.f4.resultTypes.toList).any (Tryz.prog.veiledRec ·))) = true := by kernel_rfl
theorem cf31 : (Rows.evalElementsRow.veiledFits Tryz.prog Tryz.f4.params.toList (Tryz.f4.params.toList ++ Rows.evalElementsSpec.plain.varTypes Tryz.prog ++ Tryz.f4.resultTypes.toList)) = true := by kernel_rfl
theorem and2 {a b : Bool} (h : a = true) (k : b = true) : (a && b) = true := by rw [h, k]; rfl
theorem closed : joinedFacts Tryz.prog 4 Tryz.f4 Rows.evalElementsSpec Rows.evalElementsRow = true := (and2 (and2 (and2 (and2 (and2 (and2 (and2 (and2 (and2 (and2 (and2 (and2 (and2 (and2 (and2 (and2 (and2 (and2 (and2 (and2 (and2 (and2 (and2 (and2 (and2 (and2 (and2 (and2 (and2 (and2 (and2 cf0 cf1) cf2) cf3) cf4) cf5) cf6) cf7) cf8) cf9) cf10) cf11) cf12) cf13) cf14) cf15) cf16) cf17) cf18) cf19) cf20) cf21) cf22) cf23) cf24) cf25) cf26) cf27) cf28) cf29) cf30) cf31)

theorem named4 : Tryz.prog.funcNamed "metewand/metewandlaw15.EvalElements" = some 4 := by kernel_rfl
theorem inst4 : Tryz.f4.isInstance Tryz.prog Rows.evalElementsRow.origin Rows.evalElementsRow.targs := of_decide_eq_true (by kernel_rfl)
theorem wrap4 : Tryz.f4.isWrapper Tryz.prog Rows.evalElementsRow.wrapper Rows.evalElementsRow.mainSum := by
  unfold Func.isWrapper; first | (rw [if_pos (by decide +kernel)]; kernel_rfl) | (rw [if_neg (by decide +kernel)]; exact ⟨rfl, rfl⟩)
end Go.Proofs.YtcnhgomgppmeiaaGreatDoor
end
