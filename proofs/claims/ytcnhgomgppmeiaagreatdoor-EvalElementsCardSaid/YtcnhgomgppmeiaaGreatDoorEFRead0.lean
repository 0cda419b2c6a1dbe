/-
  Calls of the number functions, run by the kernel: each returns what the tables say.
-/
import Derived.Test.YtcnhgomgppmeiaaGreatDoorENp

noncomputable section
namespace Go.Ab.Dz
open Go Go.Ab
set_option maxRecDepth 1000000
theorem readF0 (c : Cs) : runH (withPrim (envC c) prim0) 1000000 1000 109 readT 0 255 = true := by kernel_rfl
theorem readF1 (c : Cs) : runH (withPrim (envC c) prim0) 1000000 1000 109 readT 255 510 = true := by kernel_rfl
theorem readF2 (c : Cs) : runH (withPrim (envC c) prim0) 1000000 1000 109 readT 510 765 = true := by kernel_rfl
theorem readF3 (c : Cs) : runH (withPrim (envC c) prim0) 1000000 1000 109 readT 765 1021 = true := by kernel_rfl
end Go.Ab.Dz
end
