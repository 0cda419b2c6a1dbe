/-
  Calls of the number functions, run by the kernel: each returns what the tables say.
-/
import Derived.Test.YtcnhgomgppmeiaaGreatDoorNp

noncomputable section
namespace Go.Ab.Dz
open Go Go.Ab
set_option maxRecDepth 1000000
theorem chkF7 (c : Cs) : runH (withPrim (envC c) prim0) 1000000 1000 50 chkT 714 816 = true := by kernel_rfl
theorem chkF8 (c : Cs) : runH (withPrim (envC c) prim0) 1000000 1000 50 chkT 816 918 = true := by kernel_rfl
theorem chkF9 (c : Cs) : runH (withPrim (envC c) prim0) 1000000 1000 50 chkT 918 1021 = true := by kernel_rfl
end Go.Ab.Dz
end
