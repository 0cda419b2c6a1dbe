/-
  Calls of the number functions, run by the kernel: each returns what the tables say.
-/
import Derived.Test.YtcnhgomgppmeiaaGreatDoorENp

noncomputable section
namespace Go.Ab.Dz
open Go Go.Ab
set_option maxRecDepth 1000000
theorem comF14 (c : Cs) : runH (withPrim (envC c) pQ) 1000000 1000 158 comT 893 957 = true := by kernel_rfl
theorem comF15 (c : Cs) : runH (withPrim (envC c) pQ) 1000000 1000 158 comT 957 1021 = true := by kernel_rfl
end Go.Ab.Dz
end
