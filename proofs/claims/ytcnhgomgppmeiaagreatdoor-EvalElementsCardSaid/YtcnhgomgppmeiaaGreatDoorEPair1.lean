/-
  All pairs of numbers that may be drawn, added: what the tables say of them.
-/
import Derived.Test.YtcnhgomgppmeiaaGreatDoorESel

noncomputable section
namespace Go.Ab.Dz
open Go Go.Ab Go.Proofs Go.Ro
set_option maxRecDepth 1000000
theorem slots0_0 : slotsOk 0 0 10 = true := by kernel_rfl
theorem slots0_1 : slotsOk 0 10 10 = true := by kernel_rfl
theorem slots0_2 : slotsOk 0 20 10 = true := by kernel_rfl
theorem slots0_3 : slotsOk 0 30 10 = true := by kernel_rfl
theorem slots0_4 : slotsOk 0 40 10 = true := by kernel_rfl
theorem slots0_5 : slotsOk 0 50 10 = true := by kernel_rfl
theorem slots0_6 : slotsOk 0 60 10 = true := by kernel_rfl
end Go.Ab.Dz
end
