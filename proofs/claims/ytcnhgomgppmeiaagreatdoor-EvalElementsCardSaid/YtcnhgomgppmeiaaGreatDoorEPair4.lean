/-
  All pairs of numbers that may be drawn, divided: what the tables say of them.
-/
import Derived.Test.YtcnhgomgppmeiaaGreatDoorESel

noncomputable section
namespace Go.Ab.Dz
open Go Go.Ab Go.Proofs Go.Ro
set_option maxRecDepth 1000000
theorem slots3_0 : slotsOk 3 0 10 = true := by kernel_rfl
theorem slots3_1 : slotsOk 3 10 10 = true := by kernel_rfl
theorem slots3_2 : slotsOk 3 20 10 = true := by kernel_rfl
theorem slots3_3 : slotsOk 3 30 10 = true := by kernel_rfl
theorem slots3_4 : slotsOk 3 40 10 = true := by kernel_rfl
theorem slots3_5 : slotsOk 3 50 10 = true := by kernel_rfl
theorem slots3_6 : slotsOk 3 60 10 = true := by kernel_rfl
end Go.Ab.Dz
end
