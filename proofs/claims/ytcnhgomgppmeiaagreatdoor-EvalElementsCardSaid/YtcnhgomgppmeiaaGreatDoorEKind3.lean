/-
  metewandlaw15.EvalElements, run by the kernel at an operation over the tables: it returns true.
-/
import Derived.Test.YtcnhgomgppmeiaaGreatDoorECs

noncomputable section
namespace Go.Ab.Dz
open Go Go.Ab Go.Proofs Go.Ro
set_option maxRecDepth 1000000
theorem e_3_0_one_false (c : Cs) : elRun c 3 0 0 (oneF 3 false) = true := by kernel_rfl
theorem e_3_0_one_true (c : Cs) : elRun c 3 0 0 (oneF 3 true) = true := by kernel_rfl
theorem e_3_0_each_false_false_false (c : Cs) : elRun c 3 0 1 (eachF 3 false false false) = true := by kernel_rfl
theorem e_3_0_each_true_false_false (c : Cs) : elRun c 3 0 1 (eachF 3 true false false) = true := by kernel_rfl
theorem e_3_0_each_false_true_false (c : Cs) : elRun c 3 0 1 (eachF 3 false true false) = true := by kernel_rfl
theorem e_3_0_each_true_true_false (c : Cs) : elRun c 3 0 1 (eachF 3 true true false) = true := by kernel_rfl
theorem e_3_0_each_false_false_true (c : Cs) : elRun c 3 0 1 (eachF 3 false false true) = true := by kernel_rfl
theorem e_3_0_each_true_false_true (c : Cs) : elRun c 3 0 1 (eachF 3 true false true) = true := by kernel_rfl
theorem e_3_0_each_false_true_true (c : Cs) : elRun c 3 0 1 (eachF 3 false true true) = true := by kernel_rfl
theorem e_3_0_each_true_true_true (c : Cs) : elRun c 3 0 1 (eachF 3 true true true) = true := by kernel_rfl
theorem e_3_1_one_false (c : Cs) : elRun c 3 1 0 (oneF 3 false) = true := by kernel_rfl
theorem e_3_1_one_true (c : Cs) : elRun c 3 1 0 (oneF 3 true) = true := by kernel_rfl
theorem e_3_1_each_false_false_false (c : Cs) : elRun c 3 1 1 (eachF 3 false false false) = true := by kernel_rfl
theorem e_3_1_each_true_false_false (c : Cs) : elRun c 3 1 1 (eachF 3 true false false) = true := by kernel_rfl
theorem e_3_1_each_false_true_false (c : Cs) : elRun c 3 1 1 (eachF 3 false true false) = true := by kernel_rfl
theorem e_3_1_each_true_true_false (c : Cs) : elRun c 3 1 1 (eachF 3 true true false) = true := by kernel_rfl
theorem e_3_1_each_false_false_true (c : Cs) : elRun c 3 1 1 (eachF 3 false false true) = true := by kernel_rfl
theorem e_3_1_each_true_false_true (c : Cs) : elRun c 3 1 1 (eachF 3 true false true) = true := by kernel_rfl
theorem e_3_1_each_false_true_true (c : Cs) : elRun c 3 1 1 (eachF 3 false true true) = true := by kernel_rfl
theorem e_3_1_each_true_true_true (c : Cs) : elRun c 3 1 1 (eachF 3 true true true) = true := by kernel_rfl
end Go.Ab.Dz
end
