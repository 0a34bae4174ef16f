/-
  DERIVED. GIVEN WITH THE SEED: THE CARDS: each row of YtjfkfkjkbgiciaaDoorRows.lean that lists a variable, with what it lists TIED to the program's text (the seventh form; the later family's looks); each row that meets fmt, with fmt's text TOLD by the authors' own Lean function (tested against real Go, not proved from fmt's source: count such statements apart). THE CARD IS WHAT COUNTS. Prove the row's statement (the work); the ties are given (YtjfkfkjkbgiciaaDoorTie.lean); close each card by the builder's one call (the guide's Derived/Test/ToyasCard.lean, 'card_holds'). Laid BY PROGRAM, IN A SANDBOX (cutbox-door.mjs). By AI agents, Wed Nov 11 2026. No macro, syntax, notation, axiom, sorry.
-/
import Derived.Test.YtjfkfkjkbgiciaaDoorRows
import GoSem.ClaimSeven
namespace Go.Proofs.YtjfkfkjkbgiciaaDoor
namespace Rows

/-- THE TIED CARD OF 'partbooklaw18.DivisiJoins'. -/
def divisiJoinsCard : Claim7 := { stood := { row := divisiJoinsRow, standIns := [], harness := (true, "8f685e34c2dc6af25e7ebc8ef03db59f1b9f31ff4268e8022872e27698f0a8b9"), looks := false }, kinds := [], alts := [], laidByText := true, laidKinds := [.data], laidTests := true, laidLooks := .later }
def DivisiJoinsCardSaid : Prop := Claim7.holds Tryd.pinned (.plain (OpenSpec.ofChange divisiJoinsSpec)) divisiJoinsCard

/-- THE SECOND FORM's CARD OF 'partbooklaw18.DivisiJoins'. -/
def divisiJoinsUptoCard : Claim7 := { stood := { row := divisiJoinsUptoRow, standIns := [], harness := (true, "8f685e34c2dc6af25e7ebc8ef03db59f1b9f31ff4268e8022872e27698f0a8b9"), looks := false }, kinds := [], alts := [], laidByText := true, laidKinds := [.data], laidTests := true, laidLooks := .later }
def DivisiJoinsUptoCardSaid : Prop := Claim7.holds Tryd.pinned (.plain (OpenSpec.upto divisiJoinsSpec)) divisiJoinsUptoCard
end Rows
end Go.Proofs.YtjfkfkjkbgiciaaDoor
