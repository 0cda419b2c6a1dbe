/-
  All pairs of numbers that may be drawn, multiplied: what the tables say of them.
-/
import Derived.Test.YtcnhgomgppmeiaaGreatDoorESel

noncomputable section
namespace Go.Ab.Dz
open Go Go.Ab Go.Proofs Go.Ro
set_option maxRecDepth 1000000
theorem slots2_0 : slotsOk 2 0 10 = true := by kernel_rfl
theorem slots2_1 : slotsOk 2 10 10 = true := by kernel_rfl
theorem slots2_2 : slotsOk 2 20 10 = true := by kernel_rfl
theorem slots2_3 : slotsOk 2 30 10 = true := by kernel_rfl
theorem slots2_4 : slotsOk 2 40 10 = true := by kernel_rfl
theorem slots2_5 : slotsOk 2 50 10 = true := by kernel_rfl
theorem slots2_6 : slotsOk 2 60 10 = true := by kernel_rfl
end Go.Ab.Dz
end
