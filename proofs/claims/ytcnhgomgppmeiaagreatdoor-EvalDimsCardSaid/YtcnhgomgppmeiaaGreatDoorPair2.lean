/-
  All pairs of numbers that may be drawn: what the tables say of them.
-/
import Derived.Test.YtcnhgomgppmeiaaGreatDoorSel

noncomputable section
namespace Go.Ab.Dz
open Go Go.Ab
set_option maxRecDepth 1000000
theorem pairs4 : pairsOk 20 5 = true := by kernel_rfl
theorem pairs5 : pairsOk 25 5 = true := by kernel_rfl
end Go.Ab.Dz

namespace Go.Ab.Dz
open Go Go.Ab
set_option maxRecDepth 1000000
theorem pairs6 : pairsOk 30 5 = true := by kernel_rfl
theorem pairs7 : pairsOk 35 5 = true := by kernel_rfl
end Go.Ab.Dz
end
