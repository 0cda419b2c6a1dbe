/-
  Calls on fixed arguments, run by the kernel: each returns what the tables say.
-/
import Derived.Test.YtlohilpdnfgfmaaGreatDoorMemo
import Derived.KernelRfl

namespace Go.Ab.Tz
open Go Go.Ab Go.Proofs
set_option maxRecDepth 1000000
theorem m4 : runM (withPrim tabs.env p4) 1000000 60 memo4.list = true := by kernel_rfl
end Go.Ab.Tz

namespace Go.Ab.Tz
open Go Go.Ab Go.Proofs
set_option maxRecDepth 1000000
theorem m5 : runM (withPrim tabs.env p5) 1000000 60 memo5.list = true := by kernel_rfl
end Go.Ab.Tz

namespace Go.Ab.Tz
open Go Go.Ab Go.Proofs
set_option maxRecDepth 1000000
theorem m6 : runM (withPrim tabs.env p6) 1000000 60 memo6.list = true := by kernel_rfl
end Go.Ab.Tz

namespace Go.Ab.Tz
open Go Go.Ab Go.Proofs
set_option maxRecDepth 1000000
theorem m7 : runM (withPrim tabs.env p7) 1000000 60 memo7.list = true := by kernel_rfl
end Go.Ab.Tz
