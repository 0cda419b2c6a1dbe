/-
  The closed facts of metewandlaw15.EvalKnown's row; no condition.
-/
import Derived.Test.YtlohilpdnfgfmaaGreatDoorRows
import Derived.JoinedOf
import Derived.KernelRfl

namespace Go.Proofs.YtlohilpdnfgfmaaGreatDoor
open Go
set_option maxRecDepth 1000000

theorem cf0 : (Rows.evalKnownRow.wf (OpenSpec.ofChange Rows.evalKnownSpec)) = true := by kernel_rfl
theorem cf1 : (laidOutB Tryz.prog) = true := by kernel_rfl
theorem cf2 : (mapsRowed Tryz.prog) = true := by kernel_rfl
theorem cf3 : (Tryz.f6.params.all (Tryz.prog.readableRec ·)) = true := by kernel_rfl
theorem cf4 : (namedTie Tryz.prog Rows.evalKnownRow.named Rows.evalKnownSpec.vars) = true := by kernel_rfl
theorem cf5 : ((Rows.evalKnownRow.stops == [])) = true := by kernel_rfl
theorem cf6 : ((Tryz.prog.stops == [])) = true := by kernel_rfl
theorem cf7 : ((Rows.evalKnownRow.knobs == [])) = true := by kernel_rfl
theorem cf8 : ((Tryz.prog.stopKnobs == [])) = true := by kernel_rfl
theorem cf9 : ((Rows.evalKnownRow.inPlace == Tryz.prog.inPlace 6)) = true := by kernel_rfl
theorem cf10 : ((Rows.evalKnownRow.unfollowed == Tryz.prog.unfollowed 6)) = true := by kernel_rfl
theorem cf11 : ((Rows.evalKnownRow.recurses == Tryz.prog.recurses 6)) = true := by kernel_rfl
theorem cf12 : ((Rows.evalKnownRow.named == Tryz.prog.varsNamed 6)) = true := by kernel_rfl
theorem cf13 : ((Rows.evalKnownRow.maps == (Tryz.f6.params.toList ++ Rows.evalKnownSpec.plain.varTypes Tryz.prog).any (Tryz.prog.mapsRec ·))) = true := by kernel_rfl
theorem cf14 : ((Rows.evalKnownRow.ifaces == (Tryz.f6.params.toList ++ Rows.evalKnownSpec.plain.varTypes Tryz.prog).any (Tryz.prog.ifacesRec ·))) = true := by kernel_rfl
theorem cf15 : ((Rows.evalKnownRow.mapsOut == Tryz.prog.mapsAmong Tryz.f6.resultTypes.toList)) = true := by kernel_rfl
theorem cf16 : ((Rows.evalKnownRow.loops == (Tryz.f6.params.toList ++ Rows.evalKnownSpec.plain.varTypes Tryz.prog).any (Tryz.prog.loopsFrom ·))) = true := by kernel_rfl
theorem cf17 : ((Rows.evalKnownRow.wideKeys == (Tryz.f6.params.toList ++ Rows.evalKnownSpec.plain.varTypes Tryz.prog ++ Tryz.f6.resultTypes.toList).any (Tryz.prog.wideKeysFrom ·))) = true := by kernel_rfl
theorem cf18 : (Rows.evalKnownSpec.vars.all (Tryz.prog.varReadable ·)) = true := by kernel_rfl
theorem cf19 : (Tryz.f6.resultTypes.all (fun t => Tryz.prog.readableRec t && decide (t < Tryz.prog.types.size))) = true := by kernel_rfl
theorem cf20 : ((Rows.evalKnownRow.ifacesOut == Tryz.f6.resultTypes.toList.any (Tryz.prog.ifacesRec ·))) = true := by kernel_rfl
theorem cf21 : ((Rows.evalKnownRow.loopsOut == Tryz.f6.resultTypes.toList.any (Tryz.prog.loopsFrom ·))) = true := by kernel_rfl
theorem cf22 : ((Rows.evalKnownRow.plainKeys == Tryz.prog.plainKeys)) = true := by kernel_rfl
theorem cf23 : (Rows.evalKnownRow.shortTexts.isNone) = true := by kernel_rfl
theorem cf24 : (Tryz.prog.stopsHeard) = true := by kernel_rfl
theorem cf25 : (Tryz.prog.mayEnter) = true := by kernel_rfl
theorem cf26 : ((Rows.evalKnownRow.lifted == Tryz.prog.liftsFinal)) = true := by kernel_rfl
theorem cf27 : ((Tryz.prog.make == some Rows.evalKnownRow.make)) = true := by kernel_rfl
theorem cf28 : ((Rows.evalKnownRow.kinds == (if Rows.evalKnownRow.domain.isEmpty then [] else Tryz.f6.params.toList.map fun t => match Tryz.prog.underlying t with | some (.int k) => some k | _ => none))) = true := by kernel_rfl
theorem cf29 : ((Rows.evalKnownRow.pinned == Rows.evalKnownRow.pinnedBy)) = true := by kernel_rfl
theorem cf30 : ((Rows.evalKnownRow.veiled == (Tryz.f6.params.toList ++ Rows.evalKnownSpec.plain.varTypes Tryz.prog ++ Tryz.f6.resultTypes.toList).any (Tryz.prog.veiledRec ·))) = true := by kernel_rfl
theorem cf31 : (Rows.evalKnownRow.veiledFits Tryz.prog Tryz.f6.params.toList (Tryz.f6.params.toList ++ Rows.evalKnownSpec.plain.varTypes Tryz.prog ++ Tryz.f6.resultTypes.toList)) = true := by kernel_rfl
theorem and2 {a b : Bool} (h : a = true) (k : b = true) : (a && b) = true := by rw [h, k]; rfl
theorem closed : joinedFacts Tryz.prog 6 Tryz.f6 Rows.evalKnownSpec Rows.evalKnownRow = true := (and2 (and2 (and2 (and2 (and2 (and2 (and2 (and2 (and2 (and2 (and2 (and2 (and2 (and2 (and2 (and2 (and2 (and2 (and2 (and2 (and2 (and2 (and2 (and2 (and2 (and2 (and2 (and2 (and2 (and2 (and2 cf0 cf1) cf2) cf3) cf4) cf5) cf6) cf7) cf8) cf9) cf10) cf11) cf12) cf13) cf14) cf15) cf16) cf17) cf18) cf19) cf20) cf21) cf22) cf23) cf24) cf25) cf26) cf27) cf28) cf29) cf30) cf31)

theorem named6 : Tryz.prog.funcNamed "metewand/metewandlaw15.EvalKnown" = some 6 := by kernel_rfl
theorem inst6 : Tryz.f6.isInstance Tryz.prog Rows.evalKnownRow.origin Rows.evalKnownRow.targs := of_decide_eq_true (by kernel_rfl)
theorem wrap6 : Tryz.f6.isWrapper Tryz.prog Rows.evalKnownRow.wrapper Rows.evalKnownRow.mainSum := by
  unfold Func.isWrapper; first | (rw [if_pos (by decide +kernel)]; kernel_rfl) | (rw [if_neg (by decide +kernel)]; exact ⟨rfl, rfl⟩)
end Go.Proofs.YtlohilpdnfgfmaaGreatDoor
