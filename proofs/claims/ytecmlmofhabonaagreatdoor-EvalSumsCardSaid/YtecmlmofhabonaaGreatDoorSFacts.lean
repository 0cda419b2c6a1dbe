/- The closed facts of metewandlaw15.EvalSums's row; no condition. -/
import Derived.Test.YtecmlmofhabonaaGreatDoorRows
import Derived.JoinedOf
noncomputable section
namespace Go.Proofs.YtecmlmofhabonaaGreatDoor
open Go
set_option maxRecDepth 1000000
theorem cf0:(Rows.evalSumsRow.wf (OpenSpec.ofChange Rows.evalSumsSpec))=true:=by kernel_rfl
theorem cf1:(laidOutB Tryz.prog)=true:=by kernel_rfl
theorem cf2:(mapsRowed Tryz.prog)=true:=by kernel_rfl
theorem cf3:(Tryz.f8.params.all (Tryz.prog.readableRec ·))=true:=by kernel_rfl
theorem cf4:(namedTie Tryz.prog Rows.evalSumsRow.named Rows.evalSumsSpec.vars)=true:=by kernel_rfl
theorem cf5:((Rows.evalSumsRow.stops==[]))=true:=by kernel_rfl
theorem cf6:((Tryz.prog.stops==[]))=true:=by kernel_rfl
theorem cf7:((Rows.evalSumsRow.knobs==[]))=true:=by kernel_rfl
theorem cf8:((Tryz.prog.stopKnobs==[]))=true:=by kernel_rfl
theorem cf9:((Rows.evalSumsRow.inPlace==Tryz.prog.inPlace 8))=true:=by kernel_rfl
theorem cf10:((Rows.evalSumsRow.unfollowed==Tryz.prog.unfollowed 8))=true:=by kernel_rfl
theorem cf11:((Rows.evalSumsRow.recurses==Tryz.prog.recurses 8))=true:=by kernel_rfl
theorem cf12:((Rows.evalSumsRow.named==Tryz.prog.varsNamed 8))=true:=by kernel_rfl
theorem cf13:((Rows.evalSumsRow.maps==(Tryz.f8.params.toList++Rows.evalSumsSpec.plain.varTypes Tryz.prog).any (Tryz.prog.mapsRec ·)))=true:=by kernel_rfl
theorem cf14:((Rows.evalSumsRow.ifaces==(Tryz.f8.params.toList++Rows.evalSumsSpec.plain.varTypes Tryz.prog).any (Tryz.prog.ifacesRec ·)))=true:=by kernel_rfl
theorem cf15:((Rows.evalSumsRow.mapsOut==Tryz.prog.mapsAmong Tryz.f8.resultTypes.toList))=true:=by kernel_rfl
theorem cf16:((Rows.evalSumsRow.loops==(Tryz.f8.params.toList++Rows.evalSumsSpec.plain.varTypes Tryz.prog).any (Tryz.prog.loopsFrom ·)))=true:=by kernel_rfl
theorem cf17:((Rows.evalSumsRow.wideKeys==(Tryz.f8.params.toList++Rows.evalSumsSpec.plain.varTypes Tryz.prog++Tryz.f8.resultTypes.toList).any (Tryz.prog.wideKeysFrom ·)))=true:=by kernel_rfl
theorem cf18:(Rows.evalSumsSpec.vars.all (Tryz.prog.varReadable ·))=true:=by kernel_rfl
theorem cf19:(Tryz.f8.resultTypes.all (fun t=>Tryz.prog.readableRec t&&decide (t<Tryz.prog.types.size)))=true:=by kernel_rfl
theorem cf20:((Rows.evalSumsRow.ifacesOut==Tryz.f8.resultTypes.toList.any (Tryz.prog.ifacesRec ·)))=true:=by kernel_rfl
theorem cf21:((Rows.evalSumsRow.loopsOut==Tryz.f8.resultTypes.toList.any (Tryz.prog.loopsFrom ·)))=true:=by kernel_rfl
theorem cf22:((Rows.evalSumsRow.plainKeys==Tryz.prog.plainKeys))=true:=by kernel_rfl
theorem cf23:(Rows.evalSumsRow.shortTexts.isNone)=true:=by kernel_rfl
theorem cf24:(Tryz.prog.stopsHeard)=true:=by kernel_rfl
theorem cf25:(Tryz.prog.mayEnter)=true:=by kernel_rfl
theorem cf26:((Rows.evalSumsRow.lifted==Tryz.prog.liftsFinal))=true:=by kernel_rfl
theorem cf27:((Tryz.prog.make==some Rows.evalSumsRow.make))=true:=by kernel_rfl
theorem cf28:((Rows.evalSumsRow.kinds==(if Rows.evalSumsRow.domain.isEmpty then[] else Tryz.f8.params.toList.map fun t=>match Tryz.prog.underlying t with|some (.int k)=>some k|_=>none)))=true:=by kernel_rfl
theorem cf29:((Rows.evalSumsRow.pinned==Rows.evalSumsRow.pinnedBy))=true:=by kernel_rfl
theorem cf30:((Rows.evalSumsRow.veiled==(Tryz.f8.params.toList++Rows.evalSumsSpec.plain.varTypes Tryz.prog++Tryz.f8.resultTypes.toList).any (Tryz.prog.veiledRec ·)))=true:=by kernel_rfl
theorem cf31:(Rows.evalSumsRow.veiledFits Tryz.prog Tryz.f8.params.toList (Tryz.f8.params.toList++Rows.evalSumsSpec.plain.varTypes Tryz.prog++Tryz.f8.resultTypes.toList))=true:=by kernel_rfl
theorem DI {a b:Bool}(h:a=true)(k:b=true):(a&&b)=true:=by rw[h,k];rfl
theorem closed:joinedFacts Tryz.prog 8 Tryz.f8 Rows.evalSumsSpec Rows.evalSumsRow=true:=(DI (DI (DI (DI (DI (DI (DI (DI (DI (DI (DI (DI (DI (DI (DI (DI (DI (DI (DI (DI (DI (DI (DI (DI (DI (DI (DI (DI (DI (DI (DI cf0 cf1) cf2) cf3) cf4) cf5) cf6) cf7) cf8) cf9) cf10) cf11) cf12) cf13) cf14) cf15) cf16) cf17) cf18) cf19) cf20) cf21) cf22) cf23) cf24) cf25) cf26) cf27) cf28) cf29) cf30) cf31)
theorem named8:Tryz.prog.funcNamed "metewand/metewandlaw15.EvalSums" = some 8:=by kernel_rfl
theorem inst8:Tryz.f8.isInstance Tryz.prog Rows.evalSumsRow.origin Rows.evalSumsRow.targs:=of_decide_eq_true (by kernel_rfl)
theorem wrap8:Tryz.f8.isWrapper Tryz.prog Rows.evalSumsRow.wrapper Rows.evalSumsRow.mainSum:=by unfold Func.isWrapper;first|(rw[if_pos (by decide +kernel)];kernel_rfl)|(rw[if_neg (by decide +kernel)];exact⟨rfl,rfl⟩)
end Go.Proofs.YtecmlmofhabonaaGreatDoor
end
