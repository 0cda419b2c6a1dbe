/-
  Calls on fixed arguments, run by the kernel: each returns what the tables say.
-/
import Derived.Test.YtlohilpdnfgfmaaGreatDoorMemo
import Derived.KernelRfl

namespace Go.Ab.Tz
open Go Go.Ab Go.Proofs
set_option maxRecDepth 1000000
theorem m8 : runM (withPrim tabs.env p8) 1000000 60 memo8.list = true := by kernel_rfl
end Go.Ab.Tz

namespace Go.Ab.Tz
open Go Go.Ab Go.Proofs
set_option maxRecDepth 1000000
theorem m9 : runM (withPrim tabs.env p9) 1000000 60 memo9.list = true := by kernel_rfl
end Go.Ab.Tz

namespace Go.Ab.Tz
open Go Go.Ab Go.Proofs
set_option maxRecDepth 1000000
theorem m10 : runM (withPrim tabs.env p10) 1000000 60 memo10.list = true := by kernel_rfl
end Go.Ab.Tz

namespace Go.Ab.Tz
open Go Go.Ab Go.Proofs
set_option maxRecDepth 1000000
theorem m11 : runM (withPrim tabs.env p11) 1000000 60 memo11.list = true := by kernel_rfl
end Go.Ab.Tz
