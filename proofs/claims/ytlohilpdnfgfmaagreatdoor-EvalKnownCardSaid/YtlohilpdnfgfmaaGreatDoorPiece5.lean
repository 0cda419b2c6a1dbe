/-
  Calls on fixed arguments, run by the kernel: each returns what the tables say.
-/
import Derived.Test.YtlohilpdnfgfmaaGreatDoorMemo
import Derived.KernelRfl

namespace Go.Ab.Tz
open Go Go.Ab Go.Proofs
set_option maxRecDepth 1000000
theorem m16 : runM (withPrim tabs.env p16) 1000000 60 memo16.list = true := by kernel_rfl
end Go.Ab.Tz

namespace Go.Ab.Tz
open Go Go.Ab Go.Proofs
set_option maxRecDepth 1000000
theorem m17 : runM (withPrim tabs.env p17) 1000000 60 memo17.list = true := by kernel_rfl
end Go.Ab.Tz

namespace Go.Ab.Tz
open Go Go.Ab Go.Proofs
set_option maxRecDepth 1000000
theorem m18 : runM (withPrim tabs.env p18) 1000000 60 memo18.list = true := by kernel_rfl
end Go.Ab.Tz

namespace Go.Ab.Tz
open Go Go.Ab Go.Proofs
set_option maxRecDepth 1000000
theorem m19 : runM (withPrim tabs.env p19) 1000000 60 memo19.list = true := by kernel_rfl
end Go.Ab.Tz
