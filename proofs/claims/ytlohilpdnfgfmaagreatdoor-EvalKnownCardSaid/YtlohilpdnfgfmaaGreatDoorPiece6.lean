/-
  Calls on fixed arguments, run by the kernel: each returns what the tables say.
-/
import Derived.Test.YtlohilpdnfgfmaaGreatDoorMemo
import Derived.KernelRfl

namespace Go.Ab.Tz
open Go Go.Ab Go.Proofs
set_option maxRecDepth 1000000
theorem m20 : runM (withPrim tabs.env p20) 1000000 60 memo20.list = true := by kernel_rfl
end Go.Ab.Tz

namespace Go.Ab.Tz
open Go Go.Ab Go.Proofs
set_option maxRecDepth 1000000
theorem m21 : runM (withPrim tabs.env p21) 1000000 60 memo21.list = true := by kernel_rfl
end Go.Ab.Tz

namespace Go.Ab.Tz
open Go Go.Ab Go.Proofs
set_option maxRecDepth 1000000
theorem m22 : runM (withPrim tabs.env p22) 1000000 60 memo22.list = true := by kernel_rfl
end Go.Ab.Tz
