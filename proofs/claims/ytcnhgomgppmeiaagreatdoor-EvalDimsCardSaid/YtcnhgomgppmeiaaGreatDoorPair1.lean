/-
  All pairs of numbers that may be drawn: what the tables say of them.
-/
import Derived.Test.YtcnhgomgppmeiaaGreatDoorSel

noncomputable section
namespace Go.Ab.Dz
open Go Go.Ab
set_option maxRecDepth 1000000
theorem pairs0 : pairsOk 0 5 = true := by kernel_rfl
theorem pairs1 : pairsOk 5 5 = true := by kernel_rfl
end Go.Ab.Dz

namespace Go.Ab.Dz
open Go Go.Ab
set_option maxRecDepth 1000000
theorem pairs2 : pairsOk 10 5 = true := by kernel_rfl
theorem pairs3 : pairsOk 15 5 = true := by kernel_rfl
end Go.Ab.Dz
end
