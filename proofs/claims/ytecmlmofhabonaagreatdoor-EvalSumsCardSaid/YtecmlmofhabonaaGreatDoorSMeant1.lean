/- The examples that the law asks for, run by the kernel in pieces. -/
import Derived.Test.YtecmlmofhabonaaGreatDoorSMeant
noncomputable section
namespace Go.Ev
open Go Go.Ab Go.Nl Go.Nb Go.RowKit Go.Proofs Go.E4
set_option maxRecDepth 1000000
theorem ms0:QL 0 22=true:=by kernel_rfl
theorem ms1:QL 22 21=true:=by kernel_rfl
theorem ms2:QL 43 21=true:=by kernel_rfl
theorem ms3:QL 64 22=true:=by kernel_rfl
end Go.Ev
end
