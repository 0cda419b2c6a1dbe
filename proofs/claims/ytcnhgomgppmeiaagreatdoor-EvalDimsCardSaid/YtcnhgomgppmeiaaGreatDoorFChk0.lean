/-
  Calls of the number functions, run by the kernel: each returns what the tables say.
-/
import Derived.Test.YtcnhgomgppmeiaaGreatDoorNp

noncomputable section
namespace Go.Ab.Dz
open Go Go.Ab
set_option maxRecDepth 1000000
theorem chkF0 (c : Cs) : runH (withPrim (envC c) prim0) 1000000 1000 50 chkT 0 102 = true := by kernel_rfl
theorem chkF1 (c : Cs) : runH (withPrim (envC c) prim0) 1000000 1000 50 chkT 102 204 = true := by kernel_rfl
theorem chkF2 (c : Cs) : runH (withPrim (envC c) prim0) 1000000 1000 50 chkT 204 306 = true := by kernel_rfl
theorem chkF3 (c : Cs) : runH (withPrim (envC c) prim0) 1000000 1000 50 chkT 306 408 = true := by kernel_rfl
theorem chkF4 (c : Cs) : runH (withPrim (envC c) prim0) 1000000 1000 50 chkT 408 510 = true := by kernel_rfl
theorem chkF5 (c : Cs) : runH (withPrim (envC c) prim0) 1000000 1000 50 chkT 510 612 = true := by kernel_rfl
theorem chkF6 (c : Cs) : runH (withPrim (envC c) prim0) 1000000 1000 50 chkT 612 714 = true := by kernel_rfl
end Go.Ab.Dz
end
