/-
  metewandlaw15.EvalDims, run by the kernel at a pair of kinds over the tables: it returns true.
-/
import Derived.Test.YtcnhgomgppmeiaaGreatDoorCs

noncomputable section
namespace Go.Ab.Dz
open Go Go.Ab Go.Proofs Go.Ro
set_option maxRecDepth 1000000
theorem d_2_0_false (c : Cs) : dimsRun c 2 0 false = true := by kernel_rfl
theorem d_2_0_true (c : Cs) : dimsRun c 2 0 true = true := by kernel_rfl
theorem d_2_1_false (c : Cs) : dimsRun c 2 1 false = true := by kernel_rfl
theorem d_2_1_true (c : Cs) : dimsRun c 2 1 true = true := by kernel_rfl
theorem d_2_2_false (c : Cs) : dimsRun c 2 2 false = true := by kernel_rfl
theorem d_2_2_true (c : Cs) : dimsRun c 2 2 true = true := by kernel_rfl
theorem d_2_3_false (c : Cs) : dimsRun c 2 3 false = true := by kernel_rfl
theorem d_2_3_true (c : Cs) : dimsRun c 2 3 true = true := by kernel_rfl
theorem d_2_4_false (c : Cs) : dimsRun c 2 4 false = true := by kernel_rfl
theorem d_2_4_true (c : Cs) : dimsRun c 2 4 true = true := by kernel_rfl
end Go.Ab.Dz
end
