/-
  All pairs of numbers that may be drawn, subtracted: what the tables say of them.
-/
import Derived.Test.YtcnhgomgppmeiaaGreatDoorESel

noncomputable section
namespace Go.Ab.Dz
open Go Go.Ab Go.Proofs Go.Ro
set_option maxRecDepth 1000000
theorem slots1_0 : slotsOk 1 0 10 = true := by kernel_rfl
theorem slots1_1 : slotsOk 1 10 10 = true := by kernel_rfl
theorem slots1_2 : slotsOk 1 20 10 = true := by kernel_rfl
theorem slots1_3 : slotsOk 1 30 10 = true := by kernel_rfl
theorem slots1_4 : slotsOk 1 40 10 = true := by kernel_rfl
theorem slots1_5 : slotsOk 1 50 10 = true := by kernel_rfl
theorem slots1_6 : slotsOk 1 60 10 = true := by kernel_rfl
end Go.Ab.Dz
end
