/-
  DERIVED. GIVEN WITH THE SEED: THE CARDS: each row of YtgdmjdacmebfjaaDoorRows.lean that lists a variable, with what it lists TIED to the program's text (the seventh form; the later family's looks); each row that meets fmt, with fmt's text TOLD by the authors' own Lean function (tested against real Go, not proved from fmt's source: count such statements apart). THE CARD IS WHAT COUNTS. Prove the row's statement (the work); the ties are given (YtgdmjdacmebfjaaDoorTie.lean); close each card by the builder's one call (the guide's Derived/Test/ToyasCard.lean, 'card_holds'). Laid BY PROGRAM, IN A SANDBOX (cutbox-door.mjs). By AI agents, Wed Nov 11 2026. No macro, syntax, notation, axiom, sorry.
-/
import Derived.Test.YtgdmjdacmebfjaaDoorRows
import GoSem.ClaimSeven
namespace Go.Proofs.YtgdmjdacmebfjaaDoor
namespace Rows

/-- THE TIED CARD OF 'barographlaw05.WalReset'. -/
def walResetCard : Claim7 := { stood := { row := walResetRow, standIns := [], harness := (true, "3540a5a1a847a811aad74fa36fadbadd5e70c025a9fc84c7264d34e25ec44c55"), looks := true }, kinds := [], alts := [], laidByText := true, laidKinds := [.data, .pinned], laidTests := true, laidLooks := .later }
def WalResetCardSaid : Prop := Claim7.holds Tryd.pinned (.plain (OpenSpec.ofChange walResetSpec)) walResetCard

/-- THE SECOND FORM's CARD OF 'barographlaw05.WalReset'. -/
def walResetUptoCard : Claim7 := { stood := { row := walResetUptoRow, standIns := [], harness := (true, "3540a5a1a847a811aad74fa36fadbadd5e70c025a9fc84c7264d34e25ec44c55"), looks := true }, kinds := [], alts := [], laidByText := true, laidKinds := [.data, .pinned], laidTests := true, laidLooks := .later }
def WalResetUptoCardSaid : Prop := Claim7.holds Tryd.pinned (.plain (OpenSpec.upto walResetSpec)) walResetUptoCard
end Rows
end Go.Proofs.YtgdmjdacmebfjaaDoor
