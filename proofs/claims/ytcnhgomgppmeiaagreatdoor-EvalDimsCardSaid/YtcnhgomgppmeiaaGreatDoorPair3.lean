/-
  All pairs of numbers that may be drawn: what the tables say of them.
-/
import Derived.Test.YtcnhgomgppmeiaaGreatDoorSel

noncomputable section
namespace Go.Ab.Dz
open Go Go.Ab
set_option maxRecDepth 1000000
theorem pairs8 : pairsOk 40 5 = true := by kernel_rfl
theorem pairs9 : pairsOk 45 5 = true := by kernel_rfl
end Go.Ab.Dz

namespace Go.Ab.Dz
open Go Go.Ab
set_option maxRecDepth 1000000
theorem pairs10 : pairsOk 50 5 = true := by kernel_rfl
theorem pairs11 : pairsOk 55 5 = true := by kernel_rfl
end Go.Ab.Dz
end
