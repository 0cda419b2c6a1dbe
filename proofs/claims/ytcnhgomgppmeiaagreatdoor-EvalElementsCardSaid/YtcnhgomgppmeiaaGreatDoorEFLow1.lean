/-
  Calls of the number functions, run by the kernel: each returns what the tables say.
-/
import Derived.Test.YtcnhgomgppmeiaaGreatDoorENp

noncomputable section
namespace Go.Ab.Dz
open Go Go.Ab
set_option maxRecDepth 1000000
theorem lowF7 (c : Cs) : runH (withPrim (envC c) pC) 1000000 1000 144 lowT 595 680 = true := by kernel_rfl
theorem lowF8 (c : Cs) : runH (withPrim (envC c) pC) 1000000 1000 144 lowT 680 765 = true := by kernel_rfl
theorem lowF9 (c : Cs) : runH (withPrim (envC c) pC) 1000000 1000 144 lowT 765 850 = true := by kernel_rfl
theorem lowF10 (c : Cs) : runH (withPrim (envC c) pC) 1000000 1000 144 lowT 850 935 = true := by kernel_rfl
theorem lowF11 (c : Cs) : runH (withPrim (envC c) pC) 1000000 1000 144 lowT 935 1021 = true := by kernel_rfl
end Go.Ab.Dz
end
