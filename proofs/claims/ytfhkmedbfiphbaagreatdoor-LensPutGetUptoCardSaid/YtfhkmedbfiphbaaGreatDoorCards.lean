/-
  DERIVED. GIVEN WITH THE SEED: THE CARDS: each row of YtfhkmedbfiphbaaGreatDoorRows.lean that lists a variable, with what it lists TIED to the program's text (the seventh form; the later family's looks); each row that meets fmt, with fmt's text TOLD by the authors' own Lean function (tested against real Go, not proved from fmt's source: count such statements apart). THE CARD IS WHAT COUNTS. Prove the row's statement (the work); the ties are given (YtfhkmedbfiphbaaGreatDoorTie.lean); close each card by the builder's one call (the guide's Derived/Test/ToyasCard.lean, 'card_holds'). Laid BY PROGRAM, IN A SANDBOX (cutbox-door.mjs). By AI agents, Wed Nov 11 2026. No macro, syntax, notation, axiom, sorry.
-/
import Derived.Test.YtfhkmedbfiphbaaGreatDoorRows
import GoSem.ClaimSeven
namespace Go.Proofs.YtfhkmedbfiphbaaGreatDoor
namespace Rows

/-- THE TIED CARD OF 'partbooklaw15.LensMatchesReference'. -/
def lensMatchesReferenceCard : Claim7 := { stood := { row := lensMatchesReferenceRow, standIns := [], harness := (true, "4453e01fbd67136a9abdf516e6c27b401d7ab059c12dab26df8375b37d538fc5"), looks := false }, kinds := [], alts := [], laidByText := true, laidKinds := [.data], laidTests := true, laidLooks := .later }
def LensMatchesReferenceCardSaid : Prop := Claim7.holds Tryz.pinned (.plain (OpenSpec.ofChange lensMatchesReferenceSpec)) lensMatchesReferenceCard

/-- THE TIED CARD OF 'partbooklaw15.LensPutGet'. -/
def lensPutGetCard : Claim7 := { stood := { row := lensPutGetRow, standIns := [], harness := (true, "4453e01fbd67136a9abdf516e6c27b401d7ab059c12dab26df8375b37d538fc5"), looks := false }, kinds := [], alts := [], laidByText := true, laidKinds := [.data], laidTests := true, laidLooks := .later }
def LensPutGetCardSaid : Prop := Claim7.holds Tryz.pinned (.plain (OpenSpec.ofChange lensPutGetSpec)) lensPutGetCard

/-- THE TIED CARD OF 'partbooklaw15.LensGetPut'. -/
def lensGetPutCard : Claim7 := { stood := { row := lensGetPutRow, standIns := [], harness := (true, "4453e01fbd67136a9abdf516e6c27b401d7ab059c12dab26df8375b37d538fc5"), looks := false }, kinds := [], alts := [], laidByText := true, laidKinds := [.data], laidTests := true, laidLooks := .later }
def LensGetPutCardSaid : Prop := Claim7.holds Tryz.pinned (.plain (OpenSpec.ofChange lensGetPutSpec)) lensGetPutCard

/-- THE TIED CARD OF 'partbooklaw15.LensPutPut'. -/
def lensPutPutCard : Claim7 := { stood := { row := lensPutPutRow, standIns := [], harness := (true, "4453e01fbd67136a9abdf516e6c27b401d7ab059c12dab26df8375b37d538fc5"), looks := false }, kinds := [], alts := [], laidByText := true, laidKinds := [.data], laidTests := true, laidLooks := .later }
def LensPutPutCardSaid : Prop := Claim7.holds Tryz.pinned (.plain (OpenSpec.ofChange lensPutPutSpec)) lensPutPutCard

/-- THE TIED CARD OF 'partbooklaw15.LensChanges'. -/
def lensChangesCard : Claim7 := { stood := { row := lensChangesRow, standIns := [], harness := (true, "4453e01fbd67136a9abdf516e6c27b401d7ab059c12dab26df8375b37d538fc5"), looks := false }, kinds := [], alts := [], laidByText := true, laidKinds := [.data], laidTests := true, laidLooks := .later }
def LensChangesCardSaid : Prop := Claim7.holds Tryz.pinned (.plain (OpenSpec.ofChange lensChangesSpec)) lensChangesCard

/-- THE TIED CARD OF 'partbooklaw15.LensOthers'. -/
def lensOthersCard : Claim7 := { stood := { row := lensOthersRow, standIns := [], harness := (true, "4453e01fbd67136a9abdf516e6c27b401d7ab059c12dab26df8375b37d538fc5"), looks := false }, kinds := [], alts := [], laidByText := true, laidKinds := [.data], laidTests := true, laidLooks := .later }
def LensOthersCardSaid : Prop := Claim7.holds Tryz.pinned (.plain (OpenSpec.ofChange lensOthersSpec)) lensOthersCard

/-- THE SECOND FORM's CARD OF 'partbooklaw15.LensMatchesReference'. -/
def lensMatchesReferenceUptoCard : Claim7 := { stood := { row := lensMatchesReferenceUptoRow, standIns := [], harness := (true, "4453e01fbd67136a9abdf516e6c27b401d7ab059c12dab26df8375b37d538fc5"), looks := false }, kinds := [], alts := [], laidByText := true, laidKinds := [.data], laidTests := true, laidLooks := .later }
def LensMatchesReferenceUptoCardSaid : Prop := Claim7.holds Tryz.pinned (.plain (OpenSpec.upto lensMatchesReferenceSpec)) lensMatchesReferenceUptoCard

/-- THE SECOND FORM's CARD OF 'partbooklaw15.LensPutGet'. -/
def lensPutGetUptoCard : Claim7 := { stood := { row := lensPutGetUptoRow, standIns := [], harness := (true, "4453e01fbd67136a9abdf516e6c27b401d7ab059c12dab26df8375b37d538fc5"), looks := false }, kinds := [], alts := [], laidByText := true, laidKinds := [.data], laidTests := true, laidLooks := .later }
def LensPutGetUptoCardSaid : Prop := Claim7.holds Tryz.pinned (.plain (OpenSpec.upto lensPutGetSpec)) lensPutGetUptoCard

/-- THE SECOND FORM's CARD OF 'partbooklaw15.LensGetPut'. -/
def lensGetPutUptoCard : Claim7 := { stood := { row := lensGetPutUptoRow, standIns := [], harness := (true, "4453e01fbd67136a9abdf516e6c27b401d7ab059c12dab26df8375b37d538fc5"), looks := false }, kinds := [], alts := [], laidByText := true, laidKinds := [.data], laidTests := true, laidLooks := .later }
def LensGetPutUptoCardSaid : Prop := Claim7.holds Tryz.pinned (.plain (OpenSpec.upto lensGetPutSpec)) lensGetPutUptoCard

/-- THE SECOND FORM's CARD OF 'partbooklaw15.LensPutPut'. -/
def lensPutPutUptoCard : Claim7 := { stood := { row := lensPutPutUptoRow, standIns := [], harness := (true, "4453e01fbd67136a9abdf516e6c27b401d7ab059c12dab26df8375b37d538fc5"), looks := false }, kinds := [], alts := [], laidByText := true, laidKinds := [.data], laidTests := true, laidLooks := .later }
def LensPutPutUptoCardSaid : Prop := Claim7.holds Tryz.pinned (.plain (OpenSpec.upto lensPutPutSpec)) lensPutPutUptoCard

/-- THE SECOND FORM's CARD OF 'partbooklaw15.LensChanges'. -/
def lensChangesUptoCard : Claim7 := { stood := { row := lensChangesUptoRow, standIns := [], harness := (true, "4453e01fbd67136a9abdf516e6c27b401d7ab059c12dab26df8375b37d538fc5"), looks := false }, kinds := [], alts := [], laidByText := true, laidKinds := [.data], laidTests := true, laidLooks := .later }
def LensChangesUptoCardSaid : Prop := Claim7.holds Tryz.pinned (.plain (OpenSpec.upto lensChangesSpec)) lensChangesUptoCard

/-- THE SECOND FORM's CARD OF 'partbooklaw15.LensOthers'. -/
def lensOthersUptoCard : Claim7 := { stood := { row := lensOthersUptoRow, standIns := [], harness := (true, "4453e01fbd67136a9abdf516e6c27b401d7ab059c12dab26df8375b37d538fc5"), looks := false }, kinds := [], alts := [], laidByText := true, laidKinds := [.data], laidTests := true, laidLooks := .later }
def LensOthersUptoCardSaid : Prop := Claim7.holds Tryz.pinned (.plain (OpenSpec.upto lensOthersSpec)) lensOthersUptoCard
end Rows
end Go.Proofs.YtfhkmedbfiphbaaGreatDoor
