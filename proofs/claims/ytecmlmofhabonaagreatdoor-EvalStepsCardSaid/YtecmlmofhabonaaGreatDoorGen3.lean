/- What the generators make of any list of numbers. -/
import Derived.Test.YtecmlmofhabonaaGreatDoorGen2
noncomputable section
namespace Go.Ev
open Go Go.Ab Go.Nl Go.Nb Go.RowKit Go.Proofs Go.E4 Go.Ro
set_option maxRecDepth 1000000
theorem ZL (l:List AV):(kds.all fun k=>[true,false].all fun ins=>DC l 13 [.int .i64 3,.int .i64 k.n,.bool ins] (EZ 2 k ins) (I6 2 k ins) [])=true:=by kernel_rfl
end Go.Ev
end
