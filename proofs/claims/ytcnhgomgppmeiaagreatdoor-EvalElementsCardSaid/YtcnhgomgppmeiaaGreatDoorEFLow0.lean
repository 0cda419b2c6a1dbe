/-
  Calls of the number functions, run by the kernel: each returns what the tables say.
-/
import Derived.Test.YtcnhgomgppmeiaaGreatDoorENp

noncomputable section
namespace Go.Ab.Dz
open Go Go.Ab
set_option maxRecDepth 1000000
theorem lowF0 (c : Cs) : runH (withPrim (envC c) pC) 1000000 1000 144 lowT 0 85 = true := by kernel_rfl
theorem lowF1 (c : Cs) : runH (withPrim (envC c) pC) 1000000 1000 144 lowT 85 170 = true := by kernel_rfl
theorem lowF2 (c : Cs) : runH (withPrim (envC c) pC) 1000000 1000 144 lowT 170 255 = true := by kernel_rfl
theorem lowF3 (c : Cs) : runH (withPrim (envC c) pC) 1000000 1000 144 lowT 255 340 = true := by kernel_rfl
theorem lowF4 (c : Cs) : runH (withPrim (envC c) pC) 1000000 1000 144 lowT 340 425 = true := by kernel_rfl
theorem lowF5 (c : Cs) : runH (withPrim (envC c) pC) 1000000 1000 144 lowT 425 510 = true := by kernel_rfl
theorem lowF6 (c : Cs) : runH (withPrim (envC c) pC) 1000000 1000 144 lowT 510 595 = true := by kernel_rfl
end Go.Ab.Dz
end
