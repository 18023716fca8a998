/-
  DERIVED. GIVEN WITH THE SEED: THE CARDS: each row of YtdomcbebbhbdlaaGreatDoorRows.lean that lists a variable, with what it lists TIED to the program's text (the seventh form; the later family's looks); each row that meets fmt, with fmt's text TOLD by the authors' own Lean function (tested against real Go, not proved from fmt's source: count such statements apart). THE CARD IS WHAT COUNTS. Prove the row's statement (the work); the ties are given (YtdomcbebbhbdlaaGreatDoorTie.lean); close each card by the builder's one call (the guide's Derived/Test/ToyasCard.lean, 'card_holds'). Laid BY PROGRAM, IN A SANDBOX (cutbox-door.mjs). By AI agents, Wed Nov 11 2026. No macro, syntax, notation, axiom, sorry.
-/
import Derived.Test.YtdomcbebbhbdlaaGreatDoorRows
import GoSem.ClaimSeven
namespace Go.Proofs.YtdomcbebbhbdlaaGreatDoor
namespace Rows

/-- THE TIED CARD OF 'thalweglaw12.LogsBills'. -/
def logsBillsCard : Claim7 := { stood := { row := logsBillsRow, standIns := [], harness := (true, "8bd3b24a390c198be489f4f5418d6048d9031b4ee0e9b234c024b0a6e9b0f626"), looks := true }, kinds := [], alts := [], laidByText := true, laidKinds := [.data, .data, .data, .data, .sentinel, .sentinel, .pinned], laidTests := true, laidLooks := .later }
def LogsBillsCardSaid : Prop := Claim7.holds Tryz.pinned (.plain (OpenSpec.ofChange logsBillsSpec)) logsBillsCard

/-- THE TIED CARD OF 'thalweglaw12.LogsGauges'. -/
def logsGaugesCard : Claim7 := { stood := { row := logsGaugesRow, standIns := [], harness := (true, "8bd3b24a390c198be489f4f5418d6048d9031b4ee0e9b234c024b0a6e9b0f626"), looks := true }, kinds := [], alts := [], laidByText := true, laidKinds := [.data, .data, .data, .data, .sentinel, .sentinel, .pinned], laidTests := true, laidLooks := .later }
def LogsGaugesCardSaid : Prop := Claim7.holds Tryz.pinned (.plain (OpenSpec.ofChange logsGaugesSpec)) logsGaugesCard

/-- THE SECOND FORM's CARD OF 'thalweglaw12.LogsBills'. -/
def logsBillsUptoCard : Claim7 := { stood := { row := logsBillsUptoRow, standIns := [], harness := (true, "8bd3b24a390c198be489f4f5418d6048d9031b4ee0e9b234c024b0a6e9b0f626"), looks := true }, kinds := [], alts := [], laidByText := true, laidKinds := [.data, .data, .data, .data, .sentinel, .sentinel, .pinned], laidTests := true, laidLooks := .later }
def LogsBillsUptoCardSaid : Prop := Claim7.holds Tryz.pinned (.plain (OpenSpec.upto logsBillsSpec)) logsBillsUptoCard

/-- THE SECOND FORM's CARD OF 'thalweglaw12.LogsGauges'. -/
def logsGaugesUptoCard : Claim7 := { stood := { row := logsGaugesUptoRow, standIns := [], harness := (true, "8bd3b24a390c198be489f4f5418d6048d9031b4ee0e9b234c024b0a6e9b0f626"), looks := true }, kinds := [], alts := [], laidByText := true, laidKinds := [.data, .data, .data, .data, .sentinel, .sentinel, .pinned], laidTests := true, laidLooks := .later }
def LogsGaugesUptoCardSaid : Prop := Claim7.holds Tryz.pinned (.plain (OpenSpec.upto logsGaugesSpec)) logsGaugesUptoCard
end Rows
end Go.Proofs.YtdomcbebbhbdlaaGreatDoor
