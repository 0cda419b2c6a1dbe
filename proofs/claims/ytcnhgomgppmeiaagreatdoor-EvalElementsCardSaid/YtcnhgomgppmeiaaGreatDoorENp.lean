/-
  The number functions' tables as primitives.
-/
import Derived.Test.YtcnhgomgppmeiaaGreatDoorENum
import Derived.Test.YtcnhgomgppmeiaaGreatDoorTab

noncomputable section
namespace Go.Ab.Dz
open Go Go.Ab
set_option maxRecDepth 1000000
def hQ : T HT := (.n (.n .e none (.n (.n .e none (.n (.n .e none (.n (.n .e (some quoT) .e) none .e)) none .e)) none .e)) none .e)
def hC : T HT := (.n (.n (.n (.n (.n (.n .e none (.n .e none (.n .e (some comT) .e))) none .e) none .e) none .e) none (.n (.n .e none (.n (.n .e none (.n (.n .e (some quoT) .e) none .e)) none .e)) none .e)) none .e)
def hX : T HT := (.n (.n (.n (.n (.n .e none (.n (.n .e (some textT) .e) none .e)) none .e) none .e) none .e) none .e)
def hS : T HT := (.n .e none (.n (.n .e none (.n .e none (.n (.n .e none (.n .e none (.n .e (some ofT) .e))) none .e))) none (.n (.n .e none (.n (.n .e none (.n (.n .e (some smallT) .e) none .e)) none .e)) none .e)))
noncomputable def pS := primOfH prim0 hS
def hK : T HT := (.n (.n (.n (.n (.n (.n .e none (.n .e none (.n .e (some comT) .e))) none .e) none .e) none .e) none (.n (.n (.n (.n .e none (.n .e none (.n .e (some wckT) .e))) none .e) none .e) none .e)) none (.n (.n (.n (.n .e none (.n (.n .e (some readT) .e) none .e)) none .e) none (.n .e none (.n (.n .e none (.n .e none (.n .e (some ofT) .e))) none .e))) none .e))
noncomputable def pK := primOfH prim0 hK
noncomputable def pQ := primOfH prim0 hQ
noncomputable def pC := primOfH prim0 hC
noncomputable def pX := primOfH prim0 hX
end Go.Ab.Dz
end
