/- The examples that the law asks for, run by the kernel in pieces. -/
import Derived.Test.YtecmlmofhabonaaGreatDoorIMeant
noncomputable section
namespace Go.Ev
open Go Go.Ab Go.Nl Go.Nb Go.RowKit Go.Proofs Go.E4
set_option maxRecDepth 1000000
theorem ms4:Qd 86 22=true:=by kernel_rfl
theorem ms5:Qd 108 21=true:=by kernel_rfl
theorem ms6:Qd 129 21=true:=by kernel_rfl
theorem ms7:Qd 150 22=true:=by kernel_rfl
end Go.Ev
end
