/- The closed facts of metewandlaw15.EvalSteps's row; no condition. -/
import Derived.Test.YtecmlmofhabonaaGreatDoorRows
import Derived.JoinedOf
import Derived.KernelRfl
noncomputable section
namespace Go.Proofs.YtecmlmofhabonaaGreatDoor
open Go
set_option maxRecDepth 1000000
theorem cf0:(Rows.evalStepsRow.wf (OpenSpec.ofChange Rows.evalStepsSpec))=true:=by kernel_rfl
theorem cf1:(laidOutB Tryz.prog)=true:=by kernel_rfl
theorem cf2:(mapsRowed Tryz.prog)=true:=by kernel_rfl
theorem cf3:(Tryz.f5.params.all (Tryz.prog.readableRec ·))=true:=by kernel_rfl
theorem cf4:(namedTie Tryz.prog Rows.evalStepsRow.named Rows.evalStepsSpec.vars)=true:=by kernel_rfl
theorem cf5:((Rows.evalStepsRow.stops==[]))=true:=by kernel_rfl
theorem cf6:((Tryz.prog.stops==[]))=true:=by kernel_rfl
theorem cf7:((Rows.evalStepsRow.knobs==[]))=true:=by kernel_rfl
theorem cf8:((Tryz.prog.stopKnobs==[]))=true:=by kernel_rfl
theorem cf9:((Rows.evalStepsRow.inPlace==Tryz.prog.inPlace 5))=true:=by kernel_rfl
theorem cf10:((Rows.evalStepsRow.unfollowed==Tryz.prog.unfollowed 5))=true:=by kernel_rfl
theorem cf11:((Rows.evalStepsRow.recurses==Tryz.prog.recurses 5))=true:=by kernel_rfl
theorem cf12:((Rows.evalStepsRow.named==Tryz.prog.varsNamed 5))=true:=by kernel_rfl
theorem cf13:((Rows.evalStepsRow.maps==(Tryz.f5.params.toList++Rows.evalStepsSpec.plain.varTypes Tryz.prog).any (Tryz.prog.mapsRec ·)))=true:=by kernel_rfl
theorem cf14:((Rows.evalStepsRow.ifaces==(Tryz.f5.params.toList++Rows.evalStepsSpec.plain.varTypes Tryz.prog).any (Tryz.prog.ifacesRec ·)))=true:=by kernel_rfl
theorem cf15:((Rows.evalStepsRow.mapsOut==Tryz.prog.mapsAmong Tryz.f5.resultTypes.toList))=true:=by kernel_rfl
theorem cf16:((Rows.evalStepsRow.loops==(Tryz.f5.params.toList++Rows.evalStepsSpec.plain.varTypes Tryz.prog).any (Tryz.prog.loopsFrom ·)))=true:=by kernel_rfl
theorem cf17:((Rows.evalStepsRow.wideKeys==(Tryz.f5.params.toList++Rows.evalStepsSpec.plain.varTypes Tryz.prog++Tryz.f5.resultTypes.toList).any (Tryz.prog.wideKeysFrom ·)))=true:=by kernel_rfl
theorem cf18:(Rows.evalStepsSpec.vars.all (Tryz.prog.varReadable ·))=true:=by kernel_rfl
theorem cf19:(Tryz.f5.resultTypes.all (fun t=>Tryz.prog.readableRec t&&decide (t<Tryz.prog.types.size)))=true:=by kernel_rfl
theorem cf20:((Rows.evalStepsRow.ifacesOut==Tryz.f5.resultTypes.toList.any (Tryz.prog.ifacesRec ·)))=true:=by kernel_rfl
theorem cf21:((Rows.evalStepsRow.loopsOut==Tryz.f5.resultTypes.toList.any (Tryz.prog.loopsFrom ·)))=true:=by kernel_rfl
theorem cf22:((Rows.evalStepsRow.plainKeys==Tryz.prog.plainKeys))=true:=by kernel_rfl
theorem cf23:(Rows.evalStepsRow.shortTexts.isNone)=true:=by kernel_rfl
theorem cf24:(Tryz.prog.stopsHeard)=true:=by kernel_rfl
theorem cf25:(Tryz.prog.mayEnter)=true:=by kernel_rfl
theorem cf26:((Rows.evalStepsRow.lifted==Tryz.prog.liftsFinal))=true:=by kernel_rfl
theorem cf27:((Tryz.prog.make==some Rows.evalStepsRow.make))=true:=by kernel_rfl
theorem cf28:((Rows.evalStepsRow.kinds==(if Rows.evalStepsRow.domain.isEmpty then[] else Tryz.f5.params.toList.map fun t=>match Tryz.prog.underlying t with|some (.int k)=>some k|_=>none)))=true:=by kernel_rfl
theorem cf29:((Rows.evalStepsRow.pinned==Rows.evalStepsRow.pinnedBy))=true:=by kernel_rfl
theorem cf30:((Rows.evalStepsRow.veiled==(Tryz.f5.params.toList++Rows.evalStepsSpec.plain.varTypes Tryz.prog++Tryz.f5.resultTypes.toList).any (Tryz.prog.veiledRec ·)))=true:=by kernel_rfl
theorem cf31:(Rows.evalStepsRow.veiledFits Tryz.prog Tryz.f5.params.toList (Tryz.f5.params.toList++Rows.evalStepsSpec.plain.varTypes Tryz.prog++Tryz.f5.resultTypes.toList))=true:=by kernel_rfl
theorem Dx {a b:Bool}(h:a=true)(k:b=true):(a&&b)=true:=by rw[h,k];rfl
theorem closed:joinedFacts Tryz.prog 5 Tryz.f5 Rows.evalStepsSpec Rows.evalStepsRow=true:=(Dx (Dx (Dx (Dx (Dx (Dx (Dx (Dx (Dx (Dx (Dx (Dx (Dx (Dx (Dx (Dx (Dx (Dx (Dx (Dx (Dx (Dx (Dx (Dx (Dx (Dx (Dx (Dx (Dx (Dx (Dx cf0 cf1) cf2) cf3) cf4) cf5) cf6) cf7) cf8) cf9) cf10) cf11) cf12) cf13) cf14) cf15) cf16) cf17) cf18) cf19) cf20) cf21) cf22) cf23) cf24) cf25) cf26) cf27) cf28) cf29) cf30) cf31)
theorem I5:Tryz.prog.funcNamed "metewand/metewandlaw15.EvalSteps" = some 5:=by kernel_rfl
theorem inst5:Tryz.f5.isInstance Tryz.prog Rows.evalStepsRow.origin Rows.evalStepsRow.targs:=of_decide_eq_true (by kernel_rfl)
theorem wrap5:Tryz.f5.isWrapper Tryz.prog Rows.evalStepsRow.wrapper Rows.evalStepsRow.mainSum:=by
 unfold Func.isWrapper;first|(rw[if_pos (by decide +kernel)];kernel_rfl)|(rw[if_neg (by decide +kernel)];exact⟨rfl,rfl⟩)
end Go.Proofs.YtecmlmofhabonaaGreatDoor
end
