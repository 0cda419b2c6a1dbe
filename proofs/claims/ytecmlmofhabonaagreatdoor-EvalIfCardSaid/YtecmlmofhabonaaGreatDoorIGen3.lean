/- What the generators make of any list of numbers. -/
import Derived.Test.YtecmlmofhabonaaGreatDoorIGen2
noncomputable section
namespace Go.Ev
open Go Go.Ab Go.Nl Go.Nb Go.RowKit Go.Proofs Go.E4 Go.Ro
set_option maxRecDepth 1000000
theorem ZO (l:List AV):(kds.all fun k=>[true,false].all fun ins=>DN l 13 [.int .i64 3,.int .i64 k.n,.bool ins] (EV 2 k ins) (Jo 2 k ins) [])=true:=by kernel_rfl
end Go.Ev
end
