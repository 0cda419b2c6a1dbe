/-
  Calls of the number functions, run by the kernel: each returns what the tables say.
-/
import Derived.Test.YtcnhgomgppmeiaaGreatDoorENp

noncomputable section
namespace Go.Ab.Dz
open Go Go.Ab
set_option maxRecDepth 1000000
theorem quoF0 (c : Cs) : runH (withPrim (envC c) prim0) 1000000 1000 212 quoT 0 51 = true := by kernel_rfl
theorem quoF1 (c : Cs) : runH (withPrim (envC c) prim0) 1000000 1000 212 quoT 51 102 = true := by kernel_rfl
theorem quoF2 (c : Cs) : runH (withPrim (envC c) prim0) 1000000 1000 212 quoT 102 153 = true := by kernel_rfl
theorem quoF3 (c : Cs) : runH (withPrim (envC c) prim0) 1000000 1000 212 quoT 153 204 = true := by kernel_rfl
theorem quoF4 (c : Cs) : runH (withPrim (envC c) prim0) 1000000 1000 212 quoT 204 255 = true := by kernel_rfl
theorem quoF5 (c : Cs) : runH (withPrim (envC c) prim0) 1000000 1000 212 quoT 255 306 = true := by kernel_rfl
theorem quoF6 (c : Cs) : runH (withPrim (envC c) prim0) 1000000 1000 212 quoT 306 357 = true := by kernel_rfl
end Go.Ab.Dz
end
