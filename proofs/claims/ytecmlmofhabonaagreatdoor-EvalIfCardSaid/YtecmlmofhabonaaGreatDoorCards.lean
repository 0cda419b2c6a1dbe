/-
  DERIVED. GIVEN WITH THE SEED: THE CARDS: each row of YtecmlmofhabonaaGreatDoorRows.lean that lists a variable, with what it lists TIED to the program's text (the seventh form; the later family's looks); each row that meets fmt, with fmt's text TOLD by the authors' own Lean function (tested against real Go, not proved from fmt's source: count such statements apart). THE CARD IS WHAT COUNTS. Prove the row's statement (the work); the ties are given (YtecmlmofhabonaaGreatDoorTie.lean); close each card by the builder's one call (the guide's Derived/Test/ToyasCard.lean, 'card_holds'). Laid BY PROGRAM, IN A SANDBOX (cutbox-door.mjs). By AI agents, Wed Nov 11 2026. No macro, syntax, notation, axiom, sorry.
-/
import Derived.Test.YtecmlmofhabonaaGreatDoorRows
import GoSem.ClaimSeven
namespace Go.Proofs.YtecmlmofhabonaaGreatDoor
namespace Rows

/-- THE TIED CARD OF 'metewandlaw15.EvalLet'. -/
def evalLetCard : Claim7 := { stood := { row := evalLetRow, standIns := [], harness := (true, "a5ae0b84683adad0f8db137b66c864db1351bf266e636114d1b25ec550765222"), looks := true }, kinds := [], alts := [], goes := true, laidByText := true, laidKinds := [.data, .data, .data, .data, .handle, .sentinel, .sentinel, .pinned], laidTests := true, laidLooks := .later }
def EvalLetCardSaid : Prop := Claim7.holds Tryz.pinned (.plain (OpenSpec.ofChange evalLetSpec)) evalLetCard

/-- THE TIED CARD OF 'metewandlaw15.EvalIf'. -/
def evalIfCard : Claim7 := { stood := { row := evalIfRow, standIns := [], harness := (true, "a5ae0b84683adad0f8db137b66c864db1351bf266e636114d1b25ec550765222"), looks := true }, kinds := [], alts := [], goes := true, laidByText := true, laidKinds := [.data, .data, .data, .data, .handle, .sentinel, .sentinel, .pinned], laidTests := true, laidLooks := .later }
def EvalIfCardSaid : Prop := Claim7.holds Tryz.pinned (.plain (OpenSpec.ofChange evalIfSpec)) evalIfCard

/-- THE TIED CARD OF 'metewandlaw15.EvalSteps'. -/
def evalStepsCard : Claim7 := { stood := { row := evalStepsRow, standIns := [], harness := (true, "a5ae0b84683adad0f8db137b66c864db1351bf266e636114d1b25ec550765222"), looks := true }, kinds := [], alts := [], goes := true, laidByText := true, laidKinds := [.data, .data, .data, .data, .handle, .sentinel, .sentinel, .pinned], laidTests := true, laidLooks := .later }
def EvalStepsCardSaid : Prop := Claim7.holds Tryz.pinned (.plain (OpenSpec.ofChange evalStepsSpec)) evalStepsCard

/-- THE TIED CARD OF 'metewandlaw15.EvalParts'. -/
def evalPartsCard : Claim7 := { stood := { row := evalPartsRow, standIns := [], harness := (true, "a5ae0b84683adad0f8db137b66c864db1351bf266e636114d1b25ec550765222"), looks := true }, kinds := [], alts := [], goes := true, laidByText := true, laidKinds := [.data, .data, .data, .data, .handle, .sentinel, .sentinel, .pinned], laidTests := true, laidLooks := .later }
def EvalPartsCardSaid : Prop := Claim7.holds Tryz.pinned (.plain (OpenSpec.ofChange evalPartsSpec)) evalPartsCard

/-- THE TIED CARD OF 'metewandlaw15.EvalUnused'. -/
def evalUnusedCard : Claim7 := { stood := { row := evalUnusedRow, standIns := [], harness := (true, "a5ae0b84683adad0f8db137b66c864db1351bf266e636114d1b25ec550765222"), looks := true }, kinds := [], alts := [], goes := true, laidByText := true, laidKinds := [.data, .data, .data, .data, .handle, .sentinel, .sentinel, .pinned], laidTests := true, laidLooks := .later }
def EvalUnusedCardSaid : Prop := Claim7.holds Tryz.pinned (.plain (OpenSpec.ofChange evalUnusedSpec)) evalUnusedCard

/-- THE TIED CARD OF 'metewandlaw15.EvalSums'. -/
def evalSumsCard : Claim7 := { stood := { row := evalSumsRow, standIns := [], harness := (true, "a5ae0b84683adad0f8db137b66c864db1351bf266e636114d1b25ec550765222"), looks := true }, kinds := [], alts := [], goes := true, laidByText := true, laidKinds := [.data, .data, .data, .data, .handle, .sentinel, .sentinel, .pinned], laidTests := true, laidLooks := .later }
def EvalSumsCardSaid : Prop := Claim7.holds Tryz.pinned (.plain (OpenSpec.ofChange evalSumsSpec)) evalSumsCard

/-- THE SECOND FORM's CARD OF 'metewandlaw15.EvalLet'. -/
def evalLetUptoCard : Claim7 := { stood := { row := evalLetUptoRow, standIns := [], harness := (true, "a5ae0b84683adad0f8db137b66c864db1351bf266e636114d1b25ec550765222"), looks := true }, kinds := [], alts := [], goes := true, laidByText := true, laidKinds := [.data, .data, .data, .data, .handle, .sentinel, .sentinel, .pinned], laidTests := true, laidLooks := .later }
def EvalLetUptoCardSaid : Prop := Claim7.holds Tryz.pinned (.plain (OpenSpec.upto evalLetSpec)) evalLetUptoCard

/-- THE SECOND FORM's CARD OF 'metewandlaw15.EvalIf'. -/
def evalIfUptoCard : Claim7 := { stood := { row := evalIfUptoRow, standIns := [], harness := (true, "a5ae0b84683adad0f8db137b66c864db1351bf266e636114d1b25ec550765222"), looks := true }, kinds := [], alts := [], goes := true, laidByText := true, laidKinds := [.data, .data, .data, .data, .handle, .sentinel, .sentinel, .pinned], laidTests := true, laidLooks := .later }
def EvalIfUptoCardSaid : Prop := Claim7.holds Tryz.pinned (.plain (OpenSpec.upto evalIfSpec)) evalIfUptoCard

/-- THE SECOND FORM's CARD OF 'metewandlaw15.EvalSteps'. -/
def evalStepsUptoCard : Claim7 := { stood := { row := evalStepsUptoRow, standIns := [], harness := (true, "a5ae0b84683adad0f8db137b66c864db1351bf266e636114d1b25ec550765222"), looks := true }, kinds := [], alts := [], goes := true, laidByText := true, laidKinds := [.data, .data, .data, .data, .handle, .sentinel, .sentinel, .pinned], laidTests := true, laidLooks := .later }
def EvalStepsUptoCardSaid : Prop := Claim7.holds Tryz.pinned (.plain (OpenSpec.upto evalStepsSpec)) evalStepsUptoCard

/-- THE SECOND FORM's CARD OF 'metewandlaw15.EvalParts'. -/
def evalPartsUptoCard : Claim7 := { stood := { row := evalPartsUptoRow, standIns := [], harness := (true, "a5ae0b84683adad0f8db137b66c864db1351bf266e636114d1b25ec550765222"), looks := true }, kinds := [], alts := [], goes := true, laidByText := true, laidKinds := [.data, .data, .data, .data, .handle, .sentinel, .sentinel, .pinned], laidTests := true, laidLooks := .later }
def EvalPartsUptoCardSaid : Prop := Claim7.holds Tryz.pinned (.plain (OpenSpec.upto evalPartsSpec)) evalPartsUptoCard

/-- THE SECOND FORM's CARD OF 'metewandlaw15.EvalUnused'. -/
def evalUnusedUptoCard : Claim7 := { stood := { row := evalUnusedUptoRow, standIns := [], harness := (true, "a5ae0b84683adad0f8db137b66c864db1351bf266e636114d1b25ec550765222"), looks := true }, kinds := [], alts := [], goes := true, laidByText := true, laidKinds := [.data, .data, .data, .data, .handle, .sentinel, .sentinel, .pinned], laidTests := true, laidLooks := .later }
def EvalUnusedUptoCardSaid : Prop := Claim7.holds Tryz.pinned (.plain (OpenSpec.upto evalUnusedSpec)) evalUnusedUptoCard

/-- THE SECOND FORM's CARD OF 'metewandlaw15.EvalSums'. -/
def evalSumsUptoCard : Claim7 := { stood := { row := evalSumsUptoRow, standIns := [], harness := (true, "a5ae0b84683adad0f8db137b66c864db1351bf266e636114d1b25ec550765222"), looks := true }, kinds := [], alts := [], goes := true, laidByText := true, laidKinds := [.data, .data, .data, .data, .handle, .sentinel, .sentinel, .pinned], laidTests := true, laidLooks := .later }
def EvalSumsUptoCardSaid : Prop := Claim7.holds Tryz.pinned (.plain (OpenSpec.upto evalSumsSpec)) evalSumsUptoCard
end Rows
end Go.Proofs.YtecmlmofhabonaaGreatDoor
