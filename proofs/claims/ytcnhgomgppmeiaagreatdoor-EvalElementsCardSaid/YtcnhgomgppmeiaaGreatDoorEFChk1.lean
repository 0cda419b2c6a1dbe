/-
  Calls of the number functions, run by the kernel: each returns what the tables say.
-/
import Derived.Test.YtcnhgomgppmeiaaGreatDoorENp

noncomputable section
namespace Go.Ab.Dz
open Go Go.Ab
set_option maxRecDepth 1000000
theorem chkF7 (c : Cs) : runH (withPrim (envC c) pK) 1000000 1000 50 chkT 510 583 = true := by kernel_rfl
theorem chkF8 (c : Cs) : runH (withPrim (envC c) pK) 1000000 1000 50 chkT 583 656 = true := by kernel_rfl
theorem chkF9 (c : Cs) : runH (withPrim (envC c) pK) 1000000 1000 50 chkT 656 729 = true := by kernel_rfl
theorem chkF10 (c : Cs) : runH (withPrim (envC c) pK) 1000000 1000 50 chkT 729 802 = true := by kernel_rfl
theorem chkF11 (c : Cs) : runH (withPrim (envC c) pK) 1000000 1000 50 chkT 802 875 = true := by kernel_rfl
theorem chkF12 (c : Cs) : runH (withPrim (envC c) pK) 1000000 1000 50 chkT 875 948 = true := by kernel_rfl
theorem chkF13 (c : Cs) : runH (withPrim (envC c) pK) 1000000 1000 50 chkT 948 1021 = true := by kernel_rfl
end Go.Ab.Dz
end
