/-
  metewandlaw15.EvalDims, run by the kernel at a pair of kinds over the tables: it returns true.
-/
import Derived.Test.YtcnhgomgppmeiaaGreatDoorCs

noncomputable section
namespace Go.Ab.Dz
open Go Go.Ab Go.Proofs Go.Ro
set_option maxRecDepth 1000000
theorem d_3_0_false (c : Cs) : dimsRun c 3 0 false = true := by kernel_rfl
theorem d_3_0_true (c : Cs) : dimsRun c 3 0 true = true := by kernel_rfl
theorem d_3_1_false (c : Cs) : dimsRun c 3 1 false = true := by kernel_rfl
theorem d_3_1_true (c : Cs) : dimsRun c 3 1 true = true := by kernel_rfl
theorem d_3_2_false (c : Cs) : dimsRun c 3 2 false = true := by kernel_rfl
theorem d_3_2_true (c : Cs) : dimsRun c 3 2 true = true := by kernel_rfl
theorem d_3_3_false (c : Cs) : dimsRun c 3 3 false = true := by kernel_rfl
theorem d_3_3_true (c : Cs) : dimsRun c 3 3 true = true := by kernel_rfl
theorem d_3_4_false (c : Cs) : dimsRun c 3 4 false = true := by kernel_rfl
theorem d_3_4_true (c : Cs) : dimsRun c 3 4 true = true := by kernel_rfl
end Go.Ab.Dz
end
