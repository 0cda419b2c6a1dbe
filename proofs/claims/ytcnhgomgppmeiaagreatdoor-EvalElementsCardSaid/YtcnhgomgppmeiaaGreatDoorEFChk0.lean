/-
  Calls of the number functions, run by the kernel: each returns what the tables say.
-/
import Derived.Test.YtcnhgomgppmeiaaGreatDoorENp

noncomputable section
namespace Go.Ab.Dz
open Go Go.Ab
set_option maxRecDepth 1000000
theorem chkF0 (c : Cs) : runH (withPrim (envC c) pK) 1000000 1000 50 chkT 0 72 = true := by kernel_rfl
theorem chkF1 (c : Cs) : runH (withPrim (envC c) pK) 1000000 1000 50 chkT 72 145 = true := by kernel_rfl
theorem chkF2 (c : Cs) : runH (withPrim (envC c) pK) 1000000 1000 50 chkT 145 218 = true := by kernel_rfl
theorem chkF3 (c : Cs) : runH (withPrim (envC c) pK) 1000000 1000 50 chkT 218 291 = true := by kernel_rfl
theorem chkF4 (c : Cs) : runH (withPrim (envC c) pK) 1000000 1000 50 chkT 291 364 = true := by kernel_rfl
theorem chkF5 (c : Cs) : runH (withPrim (envC c) pK) 1000000 1000 50 chkT 364 437 = true := by kernel_rfl
theorem chkF6 (c : Cs) : runH (withPrim (envC c) pK) 1000000 1000 50 chkT 437 510 = true := by kernel_rfl
end Go.Ab.Dz
end
