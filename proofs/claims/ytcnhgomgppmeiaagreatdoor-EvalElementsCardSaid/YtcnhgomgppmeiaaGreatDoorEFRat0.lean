/-
  Calls of the number functions, run by the kernel: each returns what the tables say.
-/
import Derived.Test.YtcnhgomgppmeiaaGreatDoorENp

noncomputable section
namespace Go.Ab.Dz
open Go Go.Ab
set_option maxRecDepth 1000000
theorem ratF0 (c : Cs) : runH (withPrim (envC c) pX) 1000000 1000 62 ratT 0 85 = true := by kernel_rfl
theorem ratF1 (c : Cs) : runH (withPrim (envC c) pX) 1000000 1000 62 ratT 85 170 = true := by kernel_rfl
theorem ratF2 (c : Cs) : runH (withPrim (envC c) pX) 1000000 1000 62 ratT 170 255 = true := by kernel_rfl
theorem ratF3 (c : Cs) : runH (withPrim (envC c) pX) 1000000 1000 62 ratT 255 340 = true := by kernel_rfl
theorem ratF4 (c : Cs) : runH (withPrim (envC c) pX) 1000000 1000 62 ratT 340 425 = true := by kernel_rfl
theorem ratF5 (c : Cs) : runH (withPrim (envC c) pX) 1000000 1000 62 ratT 425 510 = true := by kernel_rfl
theorem ratF6 (c : Cs) : runH (withPrim (envC c) pX) 1000000 1000 62 ratT 510 595 = true := by kernel_rfl
end Go.Ab.Dz
end
