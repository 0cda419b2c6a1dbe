/-
  Calls of the number functions, run by the kernel: each returns what the tables say.
-/
import Derived.Test.YtcnhgomgppmeiaaGreatDoorENp

noncomputable section
namespace Go.Ab.Dz
open Go Go.Ab
set_option maxRecDepth 1000000
theorem ofF0 (c : Cs) : runH (withPrim (envC c) prim0) 1000000 1000 145 ofT 0 510 = true := by kernel_rfl
theorem ofF1 (c : Cs) : runH (withPrim (envC c) prim0) 1000000 1000 145 ofT 510 1021 = true := by kernel_rfl
end Go.Ab.Dz

namespace Go.Ab.Dz
open Go Go.Ab
set_option maxRecDepth 1000000
theorem smallF0 (c : Cs) : runH (withPrim (envC c) prim0) 1000000 1000 211 smallT 0 1021 = true := by kernel_rfl
end Go.Ab.Dz

namespace Go.Ab.Dz
open Go Go.Ab
set_option maxRecDepth 1000000
theorem mulF0 (c : Cs) : runH (withPrim (envC c) pS) 1000000 1000 147 mulT 0 1021 = true := by kernel_rfl
end Go.Ab.Dz

namespace Go.Ab.Dz
open Go Go.Ab
set_option maxRecDepth 1000000
theorem oppF0 (c : Cs) : runH (withPrim (envC c) prim0) 1000000 1000 160 oppT 0 1021 = true := by kernel_rfl
end Go.Ab.Dz

namespace Go.Ab.Dz
open Go Go.Ab
set_option maxRecDepth 1000000
theorem zeroF0 (c : Cs) : runH (withPrim (envC c) prim0) 1000000 1000 76 zeroT 0 1021 = true := by kernel_rfl
end Go.Ab.Dz

namespace Go.Ab.Dz
open Go Go.Ab
set_option maxRecDepth 1000000
theorem textF0 (c : Cs) : runH (withPrim (envC c) prim0) 1000000 1000 110 textT 0 340 = true := by kernel_rfl
theorem textF1 (c : Cs) : runH (withPrim (envC c) prim0) 1000000 1000 110 textT 340 680 = true := by kernel_rfl
theorem textF2 (c : Cs) : runH (withPrim (envC c) prim0) 1000000 1000 110 textT 680 1021 = true := by kernel_rfl
end Go.Ab.Dz
end
