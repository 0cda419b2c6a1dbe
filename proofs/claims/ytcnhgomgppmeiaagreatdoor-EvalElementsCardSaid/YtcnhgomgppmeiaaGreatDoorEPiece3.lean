/-
  Calls on fixed arguments, run by the kernel: each returns what the tables say.
-/
import Derived.Test.YtcnhgomgppmeiaaGreatDoorEMemo

noncomputable section
namespace Go.Ab.Dz
open Go Go.Ab
set_option maxRecDepth 1000000
theorem m6 (c : Cs) : runM (withPrim (envC c) p6) 1000000 1000 memo6.list = true := by kernel_rfl
end Go.Ab.Dz

namespace Go.Ab.Dz
open Go Go.Ab
set_option maxRecDepth 1000000
theorem m7 (c : Cs) : runM (withPrim (envC c) p7) 1000000 1000 memo7.list = true := by kernel_rfl
end Go.Ab.Dz

namespace Go.Ab.Dz
open Go Go.Ab
set_option maxRecDepth 1000000
theorem m8 (c : Cs) : runM (withPrim (envC c) p8) 1000000 1000 memo8.list = true := by kernel_rfl
end Go.Ab.Dz

namespace Go.Ab.Dz
open Go Go.Ab
set_option maxRecDepth 1000000
theorem m9 (c : Cs) : runM (withPrim (envC c) p9) 1000000 1000 memo9.list = true := by kernel_rfl
end Go.Ab.Dz
end
