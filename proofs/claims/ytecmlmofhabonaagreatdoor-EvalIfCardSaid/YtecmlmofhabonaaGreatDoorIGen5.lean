/- What the generators make of any list of numbers. -/
import Derived.Test.YtecmlmofhabonaaGreatDoorIGen4
noncomputable section
namespace Go.Ev
open Go Go.Ab Go.Nl Go.Nb Go.RowKit Go.Proofs Go.E4 Go.Ro
set_option maxRecDepth 1000000
theorem r_fun0 (l:List AV):runF l 0 0 0=true:=by kernel_rfl
theorem r_fun1 (l:List AV):runF l 1 0 0=true:=by kernel_rfl
end Go.Ev
end
