/-
  metewandlaw15.EvalKnown, run by the kernel over the tables: it returns true.
-/
import Derived.Test.YtlohilpdnfgfmaaGreatDoorMemo
import Derived.Test.YtlohilpdnfgfmaaGreatDoorPiece1
import Derived.Test.YtlohilpdnfgfmaaGreatDoorPiece2
import Derived.Test.YtlohilpdnfgfmaaGreatDoorPiece3
import Derived.Test.YtlohilpdnfgfmaaGreatDoorPiece4
import Derived.Test.YtlohilpdnfgfmaaGreatDoorPiece5
import Derived.Test.YtlohilpdnfgfmaaGreatDoorPiece6

namespace Go.Ab.Tz
open Go Go.Ab Go.Proofs
set_option maxRecDepth 1000000

def topRun (E : Env) (n : Nat) (f : FuncId) : Bool :=
  match E.fn f with
  | some F => match F.body with
    | some b => bif Nat.ble 0 F.ntmps && Nat.blt F.ntmps limF then match ev E n (.run ⟨f, F.ntmps, .normal, none⟩ (putArgs 0 [] .e) [.code b] []) ⟨.e, 0⟩ .no with
      | some (.ret (.bool true), _, _) => true
      | _ => false
      else false
    | none => false
  | none => false

theorem top_ok : topRun (withPrim tabs.env p23) 1000000 6 = true := by kernel_rfl
end Go.Ab.Tz
