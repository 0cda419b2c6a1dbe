/-
  Calls on fixed arguments, run by the kernel: each returns what the tables say.
-/
import Derived.Test.YtcnhgomgppmeiaaGreatDoorEMemo

noncomputable section
namespace Go.Ab.Dz
open Go Go.Ab
set_option maxRecDepth 1000000
theorem m0 (c : Cs) : runM (withPrim (envC c) p0) 1000000 1000 memo0.list = true := by kernel_rfl
end Go.Ab.Dz

namespace Go.Ab.Dz
open Go Go.Ab
set_option maxRecDepth 1000000
theorem m1 (c : Cs) : runM (withPrim (envC c) p1) 1000000 1000 memo1.list = true := by kernel_rfl
end Go.Ab.Dz

namespace Go.Ab.Dz
open Go Go.Ab
set_option maxRecDepth 1000000
theorem m2 (c : Cs) : runM (withPrim (envC c) p2) 1000000 1000 memo2.list = true := by kernel_rfl
end Go.Ab.Dz
end
