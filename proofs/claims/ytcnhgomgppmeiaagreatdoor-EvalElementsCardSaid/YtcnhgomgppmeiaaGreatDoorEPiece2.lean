/-
  Calls on fixed arguments, run by the kernel: each returns what the tables say.
-/
import Derived.Test.YtcnhgomgppmeiaaGreatDoorEMemo

noncomputable section
namespace Go.Ab.Dz
open Go Go.Ab
set_option maxRecDepth 1000000
theorem m3 (c : Cs) : runM (withPrim (envC c) p3) 1000000 1000 memo3.list = true := by kernel_rfl
end Go.Ab.Dz

namespace Go.Ab.Dz
open Go Go.Ab
set_option maxRecDepth 1000000
theorem m4 (c : Cs) : runM (withPrim (envC c) p4) 1000000 1000 memo4.list = true := by kernel_rfl
end Go.Ab.Dz

namespace Go.Ab.Dz
open Go Go.Ab
set_option maxRecDepth 1000000
theorem m5 (c : Cs) : runM (withPrim (envC c) p5) 1000000 1000 memo5.list = true := by kernel_rfl
end Go.Ab.Dz
end
