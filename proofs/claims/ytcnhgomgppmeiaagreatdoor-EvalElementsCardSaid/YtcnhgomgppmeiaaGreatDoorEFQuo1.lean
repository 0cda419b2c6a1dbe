/-
  Calls of the number functions, run by the kernel: each returns what the tables say.
-/
import Derived.Test.YtcnhgomgppmeiaaGreatDoorENp

noncomputable section
namespace Go.Ab.Dz
open Go Go.Ab
set_option maxRecDepth 1000000
theorem quoF7 (c : Cs) : runH (withPrim (envC c) prim0) 1000000 1000 212 quoT 357 408 = true := by kernel_rfl
theorem quoF8 (c : Cs) : runH (withPrim (envC c) prim0) 1000000 1000 212 quoT 408 459 = true := by kernel_rfl
theorem quoF9 (c : Cs) : runH (withPrim (envC c) prim0) 1000000 1000 212 quoT 459 510 = true := by kernel_rfl
theorem quoF10 (c : Cs) : runH (withPrim (envC c) prim0) 1000000 1000 212 quoT 510 561 = true := by kernel_rfl
theorem quoF11 (c : Cs) : runH (withPrim (envC c) prim0) 1000000 1000 212 quoT 561 612 = true := by kernel_rfl
theorem quoF12 (c : Cs) : runH (withPrim (envC c) prim0) 1000000 1000 212 quoT 612 663 = true := by kernel_rfl
theorem quoF13 (c : Cs) : runH (withPrim (envC c) prim0) 1000000 1000 212 quoT 663 714 = true := by kernel_rfl
end Go.Ab.Dz
end
