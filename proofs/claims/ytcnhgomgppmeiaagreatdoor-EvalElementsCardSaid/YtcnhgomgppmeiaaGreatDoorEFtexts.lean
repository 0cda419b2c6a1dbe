/-
  Calls of the number functions, run by the kernel: each returns what the tables say.
-/
import Derived.Test.YtcnhgomgppmeiaaGreatDoorENp

noncomputable section
namespace Go.Ab.Dz
open Go Go.Ab
set_option maxRecDepth 1000000
theorem ofrF0 (c : Cs) : runH (withPrim (envC c) prim0) 1000000 1000 59 ofrT 0 255 = true := by kernel_rfl
theorem ofrF1 (c : Cs) : runH (withPrim (envC c) prim0) 1000000 1000 59 ofrT 255 510 = true := by kernel_rfl
theorem ofrF2 (c : Cs) : runH (withPrim (envC c) prim0) 1000000 1000 59 ofrT 510 765 = true := by kernel_rfl
theorem ofrF3 (c : Cs) : runH (withPrim (envC c) prim0) 1000000 1000 59 ofrT 765 1021 = true := by kernel_rfl
end Go.Ab.Dz

namespace Go.Ab.Dz
open Go Go.Ab
set_option maxRecDepth 1000000
theorem rzeroF0 (c : Cs) : runH (withPrim (envC c) prim0) 1000000 1000 11 rzeroT 0 255 = true := by kernel_rfl
theorem rzeroF1 (c : Cs) : runH (withPrim (envC c) prim0) 1000000 1000 11 rzeroT 255 510 = true := by kernel_rfl
theorem rzeroF2 (c : Cs) : runH (withPrim (envC c) prim0) 1000000 1000 11 rzeroT 510 765 = true := by kernel_rfl
theorem rzeroF3 (c : Cs) : runH (withPrim (envC c) prim0) 1000000 1000 11 rzeroT 765 1021 = true := by kernel_rfl
end Go.Ab.Dz

namespace Go.Ab.Dz
open Go Go.Ab
set_option maxRecDepth 1000000
theorem ratofF0 (c : Cs) : runH (withPrim (envC c) prim0) 1000000 1000 46 ratofT 0 255 = true := by kernel_rfl
theorem ratofF1 (c : Cs) : runH (withPrim (envC c) prim0) 1000000 1000 46 ratofT 255 510 = true := by kernel_rfl
theorem ratofF2 (c : Cs) : runH (withPrim (envC c) prim0) 1000000 1000 46 ratofT 510 765 = true := by kernel_rfl
theorem ratofF3 (c : Cs) : runH (withPrim (envC c) prim0) 1000000 1000 46 ratofT 765 1021 = true := by kernel_rfl
end Go.Ab.Dz
end
