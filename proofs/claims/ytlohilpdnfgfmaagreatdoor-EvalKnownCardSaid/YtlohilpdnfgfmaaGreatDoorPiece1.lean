/-
  Calls on fixed arguments, run by the kernel: each returns what the tables say.
-/
import Derived.Test.YtlohilpdnfgfmaaGreatDoorMemo
import Derived.KernelRfl

namespace Go.Ab.Tz
open Go Go.Ab Go.Proofs
set_option maxRecDepth 1000000
theorem m0 : runM (withPrim tabs.env p0) 1000000 60 memo0.list = true := by kernel_rfl
end Go.Ab.Tz

namespace Go.Ab.Tz
open Go Go.Ab Go.Proofs
set_option maxRecDepth 1000000
theorem m1 : runM (withPrim tabs.env p1) 1000000 60 memo1.list = true := by kernel_rfl
end Go.Ab.Tz

namespace Go.Ab.Tz
open Go Go.Ab Go.Proofs
set_option maxRecDepth 1000000
theorem m2 : runM (withPrim tabs.env p2) 1000000 60 memo2.list = true := by kernel_rfl
end Go.Ab.Tz

namespace Go.Ab.Tz
open Go Go.Ab Go.Proofs
set_option maxRecDepth 1000000
theorem m3 : runM (withPrim tabs.env p3) 1000000 60 memo3.list = true := by kernel_rfl
end Go.Ab.Tz
