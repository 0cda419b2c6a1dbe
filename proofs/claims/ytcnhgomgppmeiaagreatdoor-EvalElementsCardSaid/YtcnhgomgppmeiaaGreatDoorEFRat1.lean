/-
  Calls of the number functions, run by the kernel: each returns what the tables say.
-/
import Derived.Test.YtcnhgomgppmeiaaGreatDoorENp

noncomputable section
namespace Go.Ab.Dz
open Go Go.Ab
set_option maxRecDepth 1000000
theorem ratF7 (c : Cs) : runH (withPrim (envC c) pX) 1000000 1000 62 ratT 595 680 = true := by kernel_rfl
theorem ratF8 (c : Cs) : runH (withPrim (envC c) pX) 1000000 1000 62 ratT 680 765 = true := by kernel_rfl
theorem ratF9 (c : Cs) : runH (withPrim (envC c) pX) 1000000 1000 62 ratT 765 850 = true := by kernel_rfl
theorem ratF10 (c : Cs) : runH (withPrim (envC c) pX) 1000000 1000 62 ratT 850 935 = true := by kernel_rfl
theorem ratF11 (c : Cs) : runH (withPrim (envC c) pX) 1000000 1000 62 ratT 935 1021 = true := by kernel_rfl
end Go.Ab.Dz
end
