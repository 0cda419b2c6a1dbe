/-
  Calls of the number functions, run by the kernel: each returns what the tables say.
-/
import Derived.Test.YtcnhgomgppmeiaaGreatDoorENp

noncomputable section
namespace Go.Ab.Dz
open Go Go.Ab
set_option maxRecDepth 1000000
theorem comF0 (c : Cs) : runH (withPrim (envC c) pQ) 1000000 1000 158 comT 0 63 = true := by kernel_rfl
theorem comF1 (c : Cs) : runH (withPrim (envC c) pQ) 1000000 1000 158 comT 63 127 = true := by kernel_rfl
theorem comF2 (c : Cs) : runH (withPrim (envC c) pQ) 1000000 1000 158 comT 127 191 = true := by kernel_rfl
theorem comF3 (c : Cs) : runH (withPrim (envC c) pQ) 1000000 1000 158 comT 191 255 = true := by kernel_rfl
theorem comF4 (c : Cs) : runH (withPrim (envC c) pQ) 1000000 1000 158 comT 255 319 = true := by kernel_rfl
theorem comF5 (c : Cs) : runH (withPrim (envC c) pQ) 1000000 1000 158 comT 319 382 = true := by kernel_rfl
theorem comF6 (c : Cs) : runH (withPrim (envC c) pQ) 1000000 1000 158 comT 382 446 = true := by kernel_rfl
end Go.Ab.Dz
end
