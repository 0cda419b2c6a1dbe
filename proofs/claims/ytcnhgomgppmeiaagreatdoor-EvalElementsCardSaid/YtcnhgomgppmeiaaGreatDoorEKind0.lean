/-
  metewandlaw15.EvalElements, run by the kernel at an operation over the tables: it returns true.
-/
import Derived.Test.YtcnhgomgppmeiaaGreatDoorECs

noncomputable section
namespace Go.Ab.Dz
open Go Go.Ab Go.Proofs Go.Ro
set_option maxRecDepth 1000000
theorem e_0_0_one_false (c : Cs) : elRun c 0 0 0 (oneF 0 false) = true := by kernel_rfl
theorem e_0_0_each (c : Cs) : elRun c 0 0 1 (eachF 0 false false false) = true := by kernel_rfl
theorem e_0_1_one_false (c : Cs) : elRun c 0 1 0 (oneF 0 false) = true := by kernel_rfl
theorem e_0_1_each (c : Cs) : elRun c 0 1 1 (eachF 0 false false false) = true := by kernel_rfl
end Go.Ab.Dz
end
