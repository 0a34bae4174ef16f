/-
  DERIVED. GIVEN WITH THE SEED: THE CARDS: each row of YtjigeffmmcmlnaaGreatDoorRows.lean that lists a variable, with what it lists TIED to the program's text (the seventh form; the later family's looks); each row that meets fmt, with fmt's text TOLD by the authors' own Lean function (tested against real Go, not proved from fmt's source: count such statements apart). THE CARD IS WHAT COUNTS. Prove the row's statement (the work); the ties are given (YtjigeffmmcmlnaaGreatDoorTie.lean); close each card by the builder's one call (the guide's Derived/Test/ToyasCard.lean, 'card_holds'). Laid BY PROGRAM, IN A SANDBOX (cutbox-door.mjs). By AI agents, Wed Nov 11 2026. No macro, syntax, notation, axiom, sorry.
-/
import Derived.Test.YtjigeffmmcmlnaaGreatDoorRows
import GoSem.ClaimSeven
namespace Go.Proofs.YtjigeffmmcmlnaaGreatDoor
namespace Rows

/-- THE TIED CARD OF 'partbooklaw24.EditsMatchesReference'. -/
def editsMatchesReferenceCard : Claim7 := { stood := { row := editsMatchesReferenceRow, standIns := [], harness := (true, "be7698d3a69a20000cb595c7dadb30f7c0017545e04258254a86d8252a0d0bf6"), looks := false }, kinds := [], alts := [], laidByText := true, laidKinds := [.data], laidTests := true, laidLooks := .later }
def EditsMatchesReferenceCardSaid : Prop := Claim7.holds Tryz.pinned (.plain (OpenSpec.ofChange editsMatchesReferenceSpec)) editsMatchesReferenceCard

/-- THE TIED CARD OF 'partbooklaw24.EditsApply'. -/
def editsApplyCard : Claim7 := { stood := { row := editsApplyRow, standIns := [], harness := (true, "be7698d3a69a20000cb595c7dadb30f7c0017545e04258254a86d8252a0d0bf6"), looks := false }, kinds := [], alts := [], laidByText := true, laidKinds := [.data], laidTests := true, laidLooks := .later }
def EditsApplyCardSaid : Prop := Claim7.holds Tryz.pinned (.plain (OpenSpec.ofChange editsApplySpec)) editsApplyCard

/-- THE TIED CARD OF 'partbooklaw24.EditsOrder'. -/
def editsOrderCard : Claim7 := { stood := { row := editsOrderRow, standIns := [], harness := (true, "be7698d3a69a20000cb595c7dadb30f7c0017545e04258254a86d8252a0d0bf6"), looks := false }, kinds := [], alts := [], laidByText := true, laidKinds := [.data], laidTests := true, laidLooks := .later }
def EditsOrderCardSaid : Prop := Claim7.holds Tryz.pinned (.plain (OpenSpec.ofChange editsOrderSpec)) editsOrderCard

/-- THE TIED CARD OF 'partbooklaw24.EditsMerge'. -/
def editsMergeCard : Claim7 := { stood := { row := editsMergeRow, standIns := [], harness := (true, "be7698d3a69a20000cb595c7dadb30f7c0017545e04258254a86d8252a0d0bf6"), looks := false }, kinds := [], alts := [], laidByText := true, laidKinds := [.data], laidTests := true, laidLooks := .later }
def EditsMergeCardSaid : Prop := Claim7.holds Tryz.pinned (.plain (OpenSpec.ofChange editsMergeSpec)) editsMergeCard

/-- THE TIED CARD OF 'partbooklaw24.EditsLast'. -/
def editsLastCard : Claim7 := { stood := { row := editsLastRow, standIns := [], harness := (true, "be7698d3a69a20000cb595c7dadb30f7c0017545e04258254a86d8252a0d0bf6"), looks := false }, kinds := [], alts := [], laidByText := true, laidKinds := [.data], laidTests := true, laidLooks := .later }
def EditsLastCardSaid : Prop := Claim7.holds Tryz.pinned (.plain (OpenSpec.ofChange editsLastSpec)) editsLastCard

/-- THE TIED CARD OF 'partbooklaw24.EditsUndo'. -/
def editsUndoCard : Claim7 := { stood := { row := editsUndoRow, standIns := [], harness := (true, "be7698d3a69a20000cb595c7dadb30f7c0017545e04258254a86d8252a0d0bf6"), looks := false }, kinds := [], alts := [], laidByText := true, laidKinds := [.data], laidTests := true, laidLooks := .later }
def EditsUndoCardSaid : Prop := Claim7.holds Tryz.pinned (.plain (OpenSpec.ofChange editsUndoSpec)) editsUndoCard

/-- THE SECOND FORM's CARD OF 'partbooklaw24.EditsMatchesReference'. -/
def editsMatchesReferenceUptoCard : Claim7 := { stood := { row := editsMatchesReferenceUptoRow, standIns := [], harness := (true, "be7698d3a69a20000cb595c7dadb30f7c0017545e04258254a86d8252a0d0bf6"), looks := false }, kinds := [], alts := [], laidByText := true, laidKinds := [.data], laidTests := true, laidLooks := .later }
def EditsMatchesReferenceUptoCardSaid : Prop := Claim7.holds Tryz.pinned (.plain (OpenSpec.upto editsMatchesReferenceSpec)) editsMatchesReferenceUptoCard

/-- THE SECOND FORM's CARD OF 'partbooklaw24.EditsApply'. -/
def editsApplyUptoCard : Claim7 := { stood := { row := editsApplyUptoRow, standIns := [], harness := (true, "be7698d3a69a20000cb595c7dadb30f7c0017545e04258254a86d8252a0d0bf6"), looks := false }, kinds := [], alts := [], laidByText := true, laidKinds := [.data], laidTests := true, laidLooks := .later }
def EditsApplyUptoCardSaid : Prop := Claim7.holds Tryz.pinned (.plain (OpenSpec.upto editsApplySpec)) editsApplyUptoCard

/-- THE SECOND FORM's CARD OF 'partbooklaw24.EditsOrder'. -/
def editsOrderUptoCard : Claim7 := { stood := { row := editsOrderUptoRow, standIns := [], harness := (true, "be7698d3a69a20000cb595c7dadb30f7c0017545e04258254a86d8252a0d0bf6"), looks := false }, kinds := [], alts := [], laidByText := true, laidKinds := [.data], laidTests := true, laidLooks := .later }
def EditsOrderUptoCardSaid : Prop := Claim7.holds Tryz.pinned (.plain (OpenSpec.upto editsOrderSpec)) editsOrderUptoCard

/-- THE SECOND FORM's CARD OF 'partbooklaw24.EditsMerge'. -/
def editsMergeUptoCard : Claim7 := { stood := { row := editsMergeUptoRow, standIns := [], harness := (true, "be7698d3a69a20000cb595c7dadb30f7c0017545e04258254a86d8252a0d0bf6"), looks := false }, kinds := [], alts := [], laidByText := true, laidKinds := [.data], laidTests := true, laidLooks := .later }
def EditsMergeUptoCardSaid : Prop := Claim7.holds Tryz.pinned (.plain (OpenSpec.upto editsMergeSpec)) editsMergeUptoCard

/-- THE SECOND FORM's CARD OF 'partbooklaw24.EditsLast'. -/
def editsLastUptoCard : Claim7 := { stood := { row := editsLastUptoRow, standIns := [], harness := (true, "be7698d3a69a20000cb595c7dadb30f7c0017545e04258254a86d8252a0d0bf6"), looks := false }, kinds := [], alts := [], laidByText := true, laidKinds := [.data], laidTests := true, laidLooks := .later }
def EditsLastUptoCardSaid : Prop := Claim7.holds Tryz.pinned (.plain (OpenSpec.upto editsLastSpec)) editsLastUptoCard

/-- THE SECOND FORM's CARD OF 'partbooklaw24.EditsUndo'. -/
def editsUndoUptoCard : Claim7 := { stood := { row := editsUndoUptoRow, standIns := [], harness := (true, "be7698d3a69a20000cb595c7dadb30f7c0017545e04258254a86d8252a0d0bf6"), looks := false }, kinds := [], alts := [], laidByText := true, laidKinds := [.data], laidTests := true, laidLooks := .later }
def EditsUndoUptoCardSaid : Prop := Claim7.holds Tryz.pinned (.plain (OpenSpec.upto editsUndoSpec)) editsUndoUptoCard
end Rows
end Go.Proofs.YtjigeffmmcmlnaaGreatDoor
