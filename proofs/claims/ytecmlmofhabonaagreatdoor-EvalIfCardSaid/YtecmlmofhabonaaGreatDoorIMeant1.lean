/- The examples that the law asks for, run by the kernel in pieces. -/
import Derived.Test.YtecmlmofhabonaaGreatDoorIMeant
noncomputable section
namespace Go.Ev
open Go Go.Ab Go.Nl Go.Nb Go.RowKit Go.Proofs Go.E4
set_option maxRecDepth 1000000
theorem ms0:Qd 0 22=true:=by kernel_rfl
theorem ms1:Qd 22 21=true:=by kernel_rfl
theorem ms2:Qd 43 21=true:=by kernel_rfl
theorem ms3:Qd 64 22=true:=by kernel_rfl
end Go.Ev
end
