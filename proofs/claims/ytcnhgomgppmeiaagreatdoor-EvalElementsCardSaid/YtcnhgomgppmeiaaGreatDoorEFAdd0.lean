/-
  Calls of the number functions, run by the kernel: each returns what the tables say.
-/
import Derived.Test.YtcnhgomgppmeiaaGreatDoorENp

noncomputable section
namespace Go.Ab.Dz
open Go Go.Ab
set_option maxRecDepth 1000000
theorem addF0 (c : Cs) : runH (withPrim (envC c) pS) 1000000 1000 146 addT 0 170 = true := by kernel_rfl
theorem addF1 (c : Cs) : runH (withPrim (envC c) pS) 1000000 1000 146 addT 170 340 = true := by kernel_rfl
theorem addF2 (c : Cs) : runH (withPrim (envC c) pS) 1000000 1000 146 addT 340 510 = true := by kernel_rfl
theorem addF3 (c : Cs) : runH (withPrim (envC c) pS) 1000000 1000 146 addT 510 680 = true := by kernel_rfl
theorem addF4 (c : Cs) : runH (withPrim (envC c) pS) 1000000 1000 146 addT 680 850 = true := by kernel_rfl
theorem addF5 (c : Cs) : runH (withPrim (envC c) pS) 1000000 1000 146 addT 850 1021 = true := by kernel_rfl
end Go.Ab.Dz
end
