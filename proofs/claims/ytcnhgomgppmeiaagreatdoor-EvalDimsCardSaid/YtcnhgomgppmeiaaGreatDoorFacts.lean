/-
  The closed facts of metewandlaw15.EvalDims's row; no condition.
-/
import Derived.Test.YtcnhgomgppmeiaaGreatDoorRows
import Derived.JoinedOf
import Derived.KernelRfl

noncomputable section
namespace Go.Proofs.YtcnhgomgppmeiaaGreatDoor
open Go
set_option maxRecDepth 1000000

theorem cf0 : (Rows.evalDimsRow.wf (OpenSpec.ofChange Rows.evalDimsSpec)) = true := by kernel_rfl
theorem cf1 : (laidOutB Tryz.prog) = true := by kernel_rfl
theorem cf2 : (mapsRowed Tryz.prog) = true := by kernel_rfl
theorem cf3 : (Tryz.f3.params.all (Tryz.prog.readableRec ·)) = true := by kernel_rfl
theorem cf4 : (namedTie Tryz.prog Rows.evalDimsRow.named Rows.evalDimsSpec.vars) = true := by kernel_rfl
theorem cf5 : ((Rows.evalDimsRow.stops == [])) = true := by kernel_rfl
theorem cf6 : ((Tryz.prog.stops == [])) = true := by kernel_rfl
theorem cf7 : ((Rows.evalDimsRow.knobs == [])) = true := by kernel_rfl
theorem cf8 : ((Tryz.prog.stopKnobs == [])) = true := by kernel_rfl
theorem cf9 : ((Rows.evalDimsRow.inPlace == Tryz.prog.inPlace 3)) = true := by kernel_rfl
theorem cf10 : ((Rows.evalDimsRow.unfollowed == Tryz.prog.unfollowed 3)) = true := by kernel_rfl
theorem cf11 : ((Rows.evalDimsRow.recurses == Tryz.prog.recurses 3)) = true := by kernel_rfl
theorem cf12 : ((Rows.evalDimsRow.named == Tryz.prog.varsNamed 3)) = true := by kernel_rfl
theorem cf13 : ((Rows.evalDimsRow.maps == (Tryz.f3.params.toList ++ Rows.evalDimsSpec.plain.varTypes Tryz.prog).any (Tryz.prog.mapsRec ·))) = true := by kernel_rfl
theorem cf14 : ((Rows.evalDimsRow.ifaces == (Tryz.f3.params.toList ++ Rows.evalDimsSpec.plain.varTypes Tryz.prog).any (Tryz.prog.ifacesRec ·))) = true := by kernel_rfl
theorem cf15 : ((Rows.evalDimsRow.mapsOut == Tryz.prog.mapsAmong Tryz.f3.resultTypes.toList)) = true := by kernel_rfl
theorem cf16 : ((Rows.evalDimsRow.loops == (Tryz.f3.params.toList ++ Rows.evalDimsSpec.plain.varTypes Tryz.prog).any (Tryz.prog.loopsFrom ·))) = true := by kernel_rfl
theorem cf17 : ((Rows.evalDimsRow.wideKeys == (Tryz.f3.params.toList ++ Rows.evalDimsSpec.plain.varTypes Tryz.prog ++ Tryz.f3.resultTypes.toList).any (Tryz.prog.wideKeysFrom ·))) = true := by kernel_rfl
theorem cf18 : (Rows.evalDimsSpec.vars.all (Tryz.prog.varReadable ·)) = true := by kernel_rfl
theorem cf19 : (Tryz.f3.resultTypes.all (fun t => Tryz.prog.readableRec t && decide (t < Tryz.prog.types.size))) = true := by kernel_rfl
theorem cf20 : ((Rows.evalDimsRow.ifacesOut == Tryz.f3.resultTypes.toList.any (Tryz.prog.ifacesRec ·))) = true := by kernel_rfl
theorem cf21 : ((Rows.evalDimsRow.loopsOut == Tryz.f3.resultTypes.toList.any (Tryz.prog.loopsFrom ·))) = true := by kernel_rfl
theorem cf22 : ((Rows.evalDimsRow.plainKeys == Tryz.prog.plainKeys)) = true := by kernel_rfl
theorem cf23 : (Rows.evalDimsRow.shortTexts.isNone) = true := by kernel_rfl
theorem cf24 : (Tryz.prog.stopsHeard) = true := by kernel_rfl
theorem cf25 : (Tryz.prog.mayEnter) = true := by kernel_rfl
theorem cf26 : ((Rows.evalDimsRow.lifted == Tryz.prog.liftsFinal)) = true := by kernel_rfl
theorem cf27 : ((Tryz.prog.make == some Rows.evalDimsRow.make)) = true := by kernel_rfl
theorem cf28 : ((Rows.evalDimsRow.kinds == (if Rows.evalDimsRow.domain.isEmpty then [] else Tryz.f3.params.toList.map fun t => match Tryz.prog.underlying t with | some (.int k) => some k | _ => none))) = true := by kernel_rfl
theorem cf29 : ((Rows.evalDimsRow.pinned == Rows.evalDimsRow.pinnedBy)) = true := by kernel_rfl
theorem cf30 : ((Rows.evalDimsRow.veiled == (Tryz.f3.params.toList ++ Rows.evalDimsSpec.plain.varTypes Tryz.prog ++ Tryz.f3.resultTypes.toList).any (Tryz.prog.veiledRec ·))) = true := by kernel_rfl
theorem cf31 : (Rows.evalDimsRow.veiledFits Tryz.prog Tryz.f3.params.toList (Tryz.f3.params.toList ++ Rows.evalDimsSpec.plain.varTypes Tryz.prog ++ Tryz.f3.resultTypes.toList)) = true := by kernel_rfl
theorem and2 {a b : Bool} (h : a = true) (k : b = true) : (a && b) = true := by rw [h, k]; rfl
theorem closed : joinedFacts Tryz.prog 3 Tryz.f3 Rows.evalDimsSpec Rows.evalDimsRow = true := (and2 (and2 (and2 (and2 (and2 (and2 (and2 (and2 (and2 (and2 (and2 (and2 (and2 (and2 (and2 (and2 (and2 (and2 (and2 (and2 (and2 (and2 (and2 (and2 (and2 (and2 (and2 (and2 (and2 (and2 (and2 cf0 cf1) cf2) cf3) cf4) cf5) cf6) cf7) cf8) cf9) cf10) cf11) cf12) cf13) cf14) cf15) cf16) cf17) cf18) cf19) cf20) cf21) cf22) cf23) cf24) cf25) cf26) cf27) cf28) cf29) cf30) cf31)

theorem named3 : Tryz.prog.funcNamed "metewand/metewandlaw15.EvalDims" = some 3 := by kernel_rfl
theorem inst3 : Tryz.f3.isInstance Tryz.prog Rows.evalDimsRow.origin Rows.evalDimsRow.targs := of_decide_eq_true (by kernel_rfl)
theorem wrap3 : Tryz.f3.isWrapper Tryz.prog Rows.evalDimsRow.wrapper Rows.evalDimsRow.mainSum := by
  unfold Func.isWrapper; first | (rw [if_pos (by decide +kernel)]; kernel_rfl) | (rw [if_neg (by decide +kernel)]; exact ⟨rfl, rfl⟩)
end Go.Proofs.YtcnhgomgppmeiaaGreatDoor
end
