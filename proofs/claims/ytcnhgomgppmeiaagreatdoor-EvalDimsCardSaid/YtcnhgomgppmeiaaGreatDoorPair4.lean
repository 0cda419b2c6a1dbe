/-
  All pairs of numbers that may be drawn: what the tables say of them.
-/
import Derived.Test.YtcnhgomgppmeiaaGreatDoorSel

noncomputable section
namespace Go.Ab.Dz
open Go Go.Ab
set_option maxRecDepth 1000000
theorem pairs12 : pairsOk 60 5 = true := by kernel_rfl
theorem pairs13 : pairsOk 65 5 = true := by kernel_rfl
end Go.Ab.Dz
end
