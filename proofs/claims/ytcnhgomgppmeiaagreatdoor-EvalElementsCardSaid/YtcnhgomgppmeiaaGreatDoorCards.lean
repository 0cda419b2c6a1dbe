/-
  DERIVED. GIVEN WITH THE SEED: THE CARDS: each row of YtcnhgomgppmeiaaGreatDoorRows.lean that lists a variable, with what it lists TIED to the program's text (the seventh form; the later family's looks); each row that meets fmt, with fmt's text TOLD by the authors' own Lean function (tested against real Go, not proved from fmt's source: count such statements apart). THE CARD IS WHAT COUNTS. Prove the row's statement (the work); the ties are given (YtcnhgomgppmeiaaGreatDoorTie.lean); close each card by the builder's one call (the guide's Derived/Test/ToyasCard.lean, 'card_holds'). Laid BY PROGRAM, IN A SANDBOX (cutbox-door.mjs). By AI agents, Wed Nov 11 2026. No macro, syntax, notation, axiom, sorry.
-/
import Derived.Test.YtcnhgomgppmeiaaGreatDoorRows
import GoSem.ClaimSeven
namespace Go.Proofs.YtcnhgomgppmeiaaGreatDoor
namespace Rows

/-- THE TIED CARD OF 'metewandlaw15.EvalDims'. -/
def evalDimsCard : Claim7 := { stood := { row := evalDimsRow, standIns := [], harness := (true, "ad9374a0b84482f7802da27aaaec0c2a437985404e07a4df7f9ce8dbbae66b7d"), looks := true }, kinds := [], alts := [], goes := true, laidByText := true, laidKinds := [.data, .data, .data, .data, .handle, .sentinel, .sentinel, .pinned], laidTests := true, laidLooks := .later }
def EvalDimsCardSaid : Prop := Claim7.holds Tryz.pinned (.plain (OpenSpec.ofChange evalDimsSpec)) evalDimsCard

/-- THE TIED CARD OF 'metewandlaw15.EvalElements'. -/
def evalElementsCard : Claim7 := { stood := { row := evalElementsRow, standIns := [], harness := (true, "ad9374a0b84482f7802da27aaaec0c2a437985404e07a4df7f9ce8dbbae66b7d"), looks := true }, kinds := [], alts := [], goes := true, laidByText := true, laidKinds := [.data, .data, .data, .data, .handle, .sentinel, .sentinel, .pinned], laidTests := true, laidLooks := .later }
def EvalElementsCardSaid : Prop := Claim7.holds Tryz.pinned (.plain (OpenSpec.ofChange evalElementsSpec)) evalElementsCard

/-- THE SECOND FORM's CARD OF 'metewandlaw15.EvalDims'. -/
def evalDimsUptoCard : Claim7 := { stood := { row := evalDimsUptoRow, standIns := [], harness := (true, "ad9374a0b84482f7802da27aaaec0c2a437985404e07a4df7f9ce8dbbae66b7d"), looks := true }, kinds := [], alts := [], goes := true, laidByText := true, laidKinds := [.data, .data, .data, .data, .handle, .sentinel, .sentinel, .pinned], laidTests := true, laidLooks := .later }
def EvalDimsUptoCardSaid : Prop := Claim7.holds Tryz.pinned (.plain (OpenSpec.upto evalDimsSpec)) evalDimsUptoCard

/-- THE SECOND FORM's CARD OF 'metewandlaw15.EvalElements'. -/
def evalElementsUptoCard : Claim7 := { stood := { row := evalElementsUptoRow, standIns := [], harness := (true, "ad9374a0b84482f7802da27aaaec0c2a437985404e07a4df7f9ce8dbbae66b7d"), looks := true }, kinds := [], alts := [], goes := true, laidByText := true, laidKinds := [.data, .data, .data, .data, .handle, .sentinel, .sentinel, .pinned], laidTests := true, laidLooks := .later }
def EvalElementsUptoCardSaid : Prop := Claim7.holds Tryz.pinned (.plain (OpenSpec.upto evalElementsSpec)) evalElementsUptoCard
end Rows
end Go.Proofs.YtcnhgomgppmeiaaGreatDoor
