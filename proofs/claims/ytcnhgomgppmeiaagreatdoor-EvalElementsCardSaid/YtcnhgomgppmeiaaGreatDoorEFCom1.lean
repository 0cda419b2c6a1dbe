/-
  Calls of the number functions, run by the kernel: each returns what the tables say.
-/
import Derived.Test.YtcnhgomgppmeiaaGreatDoorENp

noncomputable section
namespace Go.Ab.Dz
open Go Go.Ab
set_option maxRecDepth 1000000
theorem comF7 (c : Cs) : runH (withPrim (envC c) pQ) 1000000 1000 158 comT 446 510 = true := by kernel_rfl
theorem comF8 (c : Cs) : runH (withPrim (envC c) pQ) 1000000 1000 158 comT 510 574 = true := by kernel_rfl
theorem comF9 (c : Cs) : runH (withPrim (envC c) pQ) 1000000 1000 158 comT 574 638 = true := by kernel_rfl
theorem comF10 (c : Cs) : runH (withPrim (envC c) pQ) 1000000 1000 158 comT 638 701 = true := by kernel_rfl
theorem comF11 (c : Cs) : runH (withPrim (envC c) pQ) 1000000 1000 158 comT 701 765 = true := by kernel_rfl
theorem comF12 (c : Cs) : runH (withPrim (envC c) pQ) 1000000 1000 158 comT 765 829 = true := by kernel_rfl
theorem comF13 (c : Cs) : runH (withPrim (envC c) pQ) 1000000 1000 158 comT 829 893 = true := by kernel_rfl
end Go.Ab.Dz
end
