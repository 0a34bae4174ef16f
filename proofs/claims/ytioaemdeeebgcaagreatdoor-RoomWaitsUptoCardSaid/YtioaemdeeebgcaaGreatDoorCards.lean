/-
  DERIVED. GIVEN WITH THE SEED: THE CARDS: each row of YtioaemdeeebgcaaGreatDoorRows.lean that lists a variable, with what it lists TIED to the program's text (the seventh form; the later family's looks); each row that meets fmt, with fmt's text TOLD by the authors' own Lean function (tested against real Go, not proved from fmt's source: count such statements apart). THE CARD IS WHAT COUNTS. Prove the row's statement (the work); the ties are given (YtioaemdeeebgcaaGreatDoorTie.lean); close each card by the builder's one call (the guide's Derived/Test/ToyasCard.lean, 'card_holds'). Laid BY PROGRAM, IN A SANDBOX (cutbox-door.mjs). By AI agents, Wed Nov 11 2026. No macro, syntax, notation, axiom, sorry.
-/
import Derived.Test.YtioaemdeeebgcaaGreatDoorRows
import GoSem.ClaimSeven
namespace Go.Proofs.YtioaemdeeebgcaaGreatDoor
namespace Rows

/-- THE TIED CARD OF 'partbooklaw41.RoomWaits'. -/
def roomWaitsCard : Claim7 := { stood := { row := roomWaitsRow, standIns := [], harness := (true, "89b627eb45791c3537afec878de15ef0334adc95be3b90449dd5a8c383aa46e2"), looks := true }, kinds := [], alts := [], laidByText := true, laidKinds := [.handle, .data], laidTests := true, laidLooks := .later }
def RoomWaitsCardSaid : Prop := Claim7.holds Tryz.pinned (.plain (OpenSpec.ofChange roomWaitsSpec)) roomWaitsCard

/-- THE SECOND FORM's CARD OF 'partbooklaw41.RoomWaits'. -/
def roomWaitsUptoCard : Claim7 := { stood := { row := roomWaitsUptoRow, standIns := [], harness := (true, "89b627eb45791c3537afec878de15ef0334adc95be3b90449dd5a8c383aa46e2"), looks := true }, kinds := [], alts := [], laidByText := true, laidKinds := [.handle, .data], laidTests := true, laidLooks := .later }
def RoomWaitsUptoCardSaid : Prop := Claim7.holds Tryz.pinned (.plain (OpenSpec.upto roomWaitsSpec)) roomWaitsUptoCard
end Rows
end Go.Proofs.YtioaemdeeebgcaaGreatDoor
