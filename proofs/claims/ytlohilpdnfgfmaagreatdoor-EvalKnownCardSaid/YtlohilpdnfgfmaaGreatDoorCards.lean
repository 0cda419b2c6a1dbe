/-
  DERIVED. GIVEN WITH THE SEED: THE CARDS: each row of YtlohilpdnfgfmaaGreatDoorRows.lean that lists a variable, with what it lists TIED to the program's text (the seventh form; the later family's looks); each row that meets fmt, with fmt's text TOLD by the authors' own Lean function (tested against real Go, not proved from fmt's source: count such statements apart). THE CARD IS WHAT COUNTS. Prove the row's statement (the work); the ties are given (YtlohilpdnfgfmaaGreatDoorTie.lean); close each card by the builder's one call (the guide's Derived/Test/ToyasCard.lean, 'card_holds'). Laid BY PROGRAM, IN A SANDBOX (cutbox-door.mjs). By AI agents, Wed Nov 11 2026. No macro, syntax, notation, axiom, sorry.
-/
import Derived.Test.YtlohilpdnfgfmaaGreatDoorRows
import GoSem.ClaimSeven
namespace Go.Proofs.YtlohilpdnfgfmaaGreatDoor
namespace Rows

/-- THE TIED CARD OF 'metewandlaw15.EvalIf'. -/
def evalIfCard : Claim7 := { stood := { row := evalIfRow, standIns := [], harness := (true, "84f93952139cda033b3bb55a1d4f053a1227a6889152172357146f412803a79a"), looks := true }, kinds := [], alts := [], goes := true, laidByText := true, laidKinds := [.data, .data, .data, .data, .handle, .sentinel, .sentinel, .pinned], laidTests := true, laidLooks := .later }
def EvalIfCardSaid : Prop := Claim7.holds Tryz.pinned (.plain (OpenSpec.ofChange evalIfSpec)) evalIfCard

/-- THE TIED CARD OF 'metewandlaw15.EvalSteps'. -/
def evalStepsCard : Claim7 := { stood := { row := evalStepsRow, standIns := [], harness := (true, "84f93952139cda033b3bb55a1d4f053a1227a6889152172357146f412803a79a"), looks := true }, kinds := [], alts := [], goes := true, laidByText := true, laidKinds := [.data, .data, .data, .data, .handle, .sentinel, .sentinel, .pinned], laidTests := true, laidLooks := .later }
def EvalStepsCardSaid : Prop := Claim7.holds Tryz.pinned (.plain (OpenSpec.ofChange evalStepsSpec)) evalStepsCard

/-- THE TIED CARD OF 'metewandlaw15.EvalDims'. -/
def evalDimsCard : Claim7 := { stood := { row := evalDimsRow, standIns := [], harness := (true, "84f93952139cda033b3bb55a1d4f053a1227a6889152172357146f412803a79a"), looks := true }, kinds := [], alts := [], goes := true, laidByText := true, laidKinds := [.data, .data, .data, .data, .handle, .sentinel, .sentinel, .pinned], laidTests := true, laidLooks := .later }
def EvalDimsCardSaid : Prop := Claim7.holds Tryz.pinned (.plain (OpenSpec.ofChange evalDimsSpec)) evalDimsCard

/-- THE TIED CARD OF 'metewandlaw15.EvalKnown'. -/
def evalKnownCard : Claim7 := { stood := { row := evalKnownRow, standIns := [], harness := (true, "84f93952139cda033b3bb55a1d4f053a1227a6889152172357146f412803a79a"), looks := true }, kinds := [], alts := [], goes := true, laidByText := true, laidKinds := [.data, .data, .data, .data, .handle, .sentinel, .sentinel, .pinned], laidTests := true, laidLooks := .later }
def EvalKnownCardSaid : Prop := Claim7.holds Tryz.pinned (.plain (OpenSpec.ofChange evalKnownSpec)) evalKnownCard

/-- THE SECOND FORM's CARD OF 'metewandlaw15.EvalIf'. -/
def evalIfUptoCard : Claim7 := { stood := { row := evalIfUptoRow, standIns := [], harness := (true, "84f93952139cda033b3bb55a1d4f053a1227a6889152172357146f412803a79a"), looks := true }, kinds := [], alts := [], goes := true, laidByText := true, laidKinds := [.data, .data, .data, .data, .handle, .sentinel, .sentinel, .pinned], laidTests := true, laidLooks := .later }
def EvalIfUptoCardSaid : Prop := Claim7.holds Tryz.pinned (.plain (OpenSpec.upto evalIfSpec)) evalIfUptoCard

/-- THE SECOND FORM's CARD OF 'metewandlaw15.EvalSteps'. -/
def evalStepsUptoCard : Claim7 := { stood := { row := evalStepsUptoRow, standIns := [], harness := (true, "84f93952139cda033b3bb55a1d4f053a1227a6889152172357146f412803a79a"), looks := true }, kinds := [], alts := [], goes := true, laidByText := true, laidKinds := [.data, .data, .data, .data, .handle, .sentinel, .sentinel, .pinned], laidTests := true, laidLooks := .later }
def EvalStepsUptoCardSaid : Prop := Claim7.holds Tryz.pinned (.plain (OpenSpec.upto evalStepsSpec)) evalStepsUptoCard

/-- THE SECOND FORM's CARD OF 'metewandlaw15.EvalDims'. -/
def evalDimsUptoCard : Claim7 := { stood := { row := evalDimsUptoRow, standIns := [], harness := (true, "84f93952139cda033b3bb55a1d4f053a1227a6889152172357146f412803a79a"), looks := true }, kinds := [], alts := [], goes := true, laidByText := true, laidKinds := [.data, .data, .data, .data, .handle, .sentinel, .sentinel, .pinned], laidTests := true, laidLooks := .later }
def EvalDimsUptoCardSaid : Prop := Claim7.holds Tryz.pinned (.plain (OpenSpec.upto evalDimsSpec)) evalDimsUptoCard

/-- THE SECOND FORM's CARD OF 'metewandlaw15.EvalKnown'. -/
def evalKnownUptoCard : Claim7 := { stood := { row := evalKnownUptoRow, standIns := [], harness := (true, "84f93952139cda033b3bb55a1d4f053a1227a6889152172357146f412803a79a"), looks := true }, kinds := [], alts := [], goes := true, laidByText := true, laidKinds := [.data, .data, .data, .data, .handle, .sentinel, .sentinel, .pinned], laidTests := true, laidLooks := .later }
def EvalKnownUptoCardSaid : Prop := Claim7.holds Tryz.pinned (.plain (OpenSpec.upto evalKnownSpec)) evalKnownUptoCard
end Rows
end Go.Proofs.YtlohilpdnfgfmaaGreatDoor
