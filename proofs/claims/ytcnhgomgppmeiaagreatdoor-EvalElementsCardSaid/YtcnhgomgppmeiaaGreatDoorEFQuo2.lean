/-
  Calls of the number functions, run by the kernel: each returns what the tables say.
-/
import Derived.Test.YtcnhgomgppmeiaaGreatDoorENp

noncomputable section
namespace Go.Ab.Dz
open Go Go.Ab
set_option maxRecDepth 1000000
theorem quoF14 (c : Cs) : runH (withPrim (envC c) prim0) 1000000 1000 212 quoT 714 765 = true := by kernel_rfl
theorem quoF15 (c : Cs) : runH (withPrim (envC c) prim0) 1000000 1000 212 quoT 765 816 = true := by kernel_rfl
theorem quoF16 (c : Cs) : runH (withPrim (envC c) prim0) 1000000 1000 212 quoT 816 867 = true := by kernel_rfl
theorem quoF17 (c : Cs) : runH (withPrim (envC c) prim0) 1000000 1000 212 quoT 867 918 = true := by kernel_rfl
theorem quoF18 (c : Cs) : runH (withPrim (envC c) prim0) 1000000 1000 212 quoT 918 969 = true := by kernel_rfl
theorem quoF19 (c : Cs) : runH (withPrim (envC c) prim0) 1000000 1000 212 quoT 969 1021 = true := by kernel_rfl
end Go.Ab.Dz
end
