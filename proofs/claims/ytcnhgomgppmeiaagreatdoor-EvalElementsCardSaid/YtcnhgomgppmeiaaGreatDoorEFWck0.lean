/-
  Calls of the number functions, run by the kernel: each returns what the tables say.
-/
import Derived.Test.YtcnhgomgppmeiaaGreatDoorENp

noncomputable section
namespace Go.Ab.Dz
open Go Go.Ab
set_option maxRecDepth 1000000
theorem wckF0 (c : Cs) : runH (withPrim (envC c) prim0) 1000000 1000 156 wckT 0 170 = true := by kernel_rfl
theorem wckF1 (c : Cs) : runH (withPrim (envC c) prim0) 1000000 1000 156 wckT 170 340 = true := by kernel_rfl
theorem wckF2 (c : Cs) : runH (withPrim (envC c) prim0) 1000000 1000 156 wckT 340 510 = true := by kernel_rfl
theorem wckF3 (c : Cs) : runH (withPrim (envC c) prim0) 1000000 1000 156 wckT 510 680 = true := by kernel_rfl
theorem wckF4 (c : Cs) : runH (withPrim (envC c) prim0) 1000000 1000 156 wckT 680 850 = true := by kernel_rfl
theorem wckF5 (c : Cs) : runH (withPrim (envC c) prim0) 1000000 1000 156 wckT 850 1021 = true := by kernel_rfl
end Go.Ab.Dz
end
