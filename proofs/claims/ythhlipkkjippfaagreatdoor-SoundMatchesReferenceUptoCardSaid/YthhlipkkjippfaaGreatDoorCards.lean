/-
  DERIVED. GIVEN WITH THE SEED: THE CARDS: each row of YthhlipkkjippfaaGreatDoorRows.lean that lists a variable, with what it lists TIED to the program's text (the seventh form; the later family's looks); each row that meets fmt, with fmt's text TOLD by the authors' own Lean function (tested against real Go, not proved from fmt's source: count such statements apart). THE CARD IS WHAT COUNTS. Prove the row's statement (the work); the ties are given (YthhlipkkjippfaaGreatDoorTie.lean); close each card by the builder's one call (the guide's Derived/Test/ToyasCard.lean, 'card_holds'). Laid BY PROGRAM, IN A SANDBOX (cutbox-door.mjs). By AI agents, Wed Nov 11 2026. No macro, syntax, notation, axiom, sorry.
-/
import Derived.Test.YthhlipkkjippfaaGreatDoorRows
import GoSem.ClaimSeven
namespace Go.Proofs.YthhlipkkjippfaaGreatDoor
namespace Rows

/-- THE TIED CARD OF 'partbooklaw33.SoundMatchesReference'. -/
def soundMatchesReferenceCard : Claim7 := { stood := { row := soundMatchesReferenceRow, standIns := [], harness := (true, "26c9aa473be47509ffbbc2ce1141968f79bc9a4c7852ada1729f2d7c83ba6db9"), looks := false }, kinds := [], alts := [], laidByText := true, laidKinds := [.data], laidTests := true, laidLooks := .later }
def SoundMatchesReferenceCardSaid : Prop := Claim7.holds Tryz.pinned (.plain (OpenSpec.ofChange soundMatchesReferenceSpec)) soundMatchesReferenceCard

/-- THE TIED CARD OF 'partbooklaw33.SoundTogether'. -/
def soundTogetherCard : Claim7 := { stood := { row := soundTogetherRow, standIns := [], harness := (true, "26c9aa473be47509ffbbc2ce1141968f79bc9a4c7852ada1729f2d7c83ba6db9"), looks := false }, kinds := [], alts := [], laidByText := true, laidKinds := [.data], laidTests := true, laidLooks := .later }
def SoundTogetherCardSaid : Prop := Claim7.holds Tryz.pinned (.plain (OpenSpec.ofChange soundTogetherSpec)) soundTogetherCard

/-- THE TIED CARD OF 'partbooklaw33.SoundParts'. -/
def soundPartsCard : Claim7 := { stood := { row := soundPartsRow, standIns := [], harness := (true, "26c9aa473be47509ffbbc2ce1141968f79bc9a4c7852ada1729f2d7c83ba6db9"), looks := false }, kinds := [], alts := [], laidByText := true, laidKinds := [.data], laidTests := true, laidLooks := .later }
def SoundPartsCardSaid : Prop := Claim7.holds Tryz.pinned (.plain (OpenSpec.ofChange soundPartsSpec)) soundPartsCard

/-- THE TIED CARD OF 'partbooklaw33.SoundVisits'. -/
def soundVisitsCard : Claim7 := { stood := { row := soundVisitsRow, standIns := [], harness := (true, "26c9aa473be47509ffbbc2ce1141968f79bc9a4c7852ada1729f2d7c83ba6db9"), looks := false }, kinds := [], alts := [], laidByText := true, laidKinds := [.data], laidTests := true, laidLooks := .later }
def SoundVisitsCardSaid : Prop := Claim7.holds Tryz.pinned (.plain (OpenSpec.ofChange soundVisitsSpec)) soundVisitsCard

/-- THE TIED CARD OF 'partbooklaw33.SoundTime'. -/
def soundTimeCard : Claim7 := { stood := { row := soundTimeRow, standIns := [], harness := (true, "26c9aa473be47509ffbbc2ce1141968f79bc9a4c7852ada1729f2d7c83ba6db9"), looks := false }, kinds := [], alts := [], laidByText := true, laidKinds := [.data], laidTests := true, laidLooks := .later }
def SoundTimeCardSaid : Prop := Claim7.holds Tryz.pinned (.plain (OpenSpec.ofChange soundTimeSpec)) soundTimeCard

/-- THE SECOND FORM's CARD OF 'partbooklaw33.SoundMatchesReference'. -/
def soundMatchesReferenceUptoCard : Claim7 := { stood := { row := soundMatchesReferenceUptoRow, standIns := [], harness := (true, "26c9aa473be47509ffbbc2ce1141968f79bc9a4c7852ada1729f2d7c83ba6db9"), looks := false }, kinds := [], alts := [], laidByText := true, laidKinds := [.data], laidTests := true, laidLooks := .later }
def SoundMatchesReferenceUptoCardSaid : Prop := Claim7.holds Tryz.pinned (.plain (OpenSpec.upto soundMatchesReferenceSpec)) soundMatchesReferenceUptoCard

/-- THE SECOND FORM's CARD OF 'partbooklaw33.SoundTogether'. -/
def soundTogetherUptoCard : Claim7 := { stood := { row := soundTogetherUptoRow, standIns := [], harness := (true, "26c9aa473be47509ffbbc2ce1141968f79bc9a4c7852ada1729f2d7c83ba6db9"), looks := false }, kinds := [], alts := [], laidByText := true, laidKinds := [.data], laidTests := true, laidLooks := .later }
def SoundTogetherUptoCardSaid : Prop := Claim7.holds Tryz.pinned (.plain (OpenSpec.upto soundTogetherSpec)) soundTogetherUptoCard

/-- THE SECOND FORM's CARD OF 'partbooklaw33.SoundParts'. -/
def soundPartsUptoCard : Claim7 := { stood := { row := soundPartsUptoRow, standIns := [], harness := (true, "26c9aa473be47509ffbbc2ce1141968f79bc9a4c7852ada1729f2d7c83ba6db9"), looks := false }, kinds := [], alts := [], laidByText := true, laidKinds := [.data], laidTests := true, laidLooks := .later }
def SoundPartsUptoCardSaid : Prop := Claim7.holds Tryz.pinned (.plain (OpenSpec.upto soundPartsSpec)) soundPartsUptoCard

/-- THE SECOND FORM's CARD OF 'partbooklaw33.SoundVisits'. -/
def soundVisitsUptoCard : Claim7 := { stood := { row := soundVisitsUptoRow, standIns := [], harness := (true, "26c9aa473be47509ffbbc2ce1141968f79bc9a4c7852ada1729f2d7c83ba6db9"), looks := false }, kinds := [], alts := [], laidByText := true, laidKinds := [.data], laidTests := true, laidLooks := .later }
def SoundVisitsUptoCardSaid : Prop := Claim7.holds Tryz.pinned (.plain (OpenSpec.upto soundVisitsSpec)) soundVisitsUptoCard

/-- THE SECOND FORM's CARD OF 'partbooklaw33.SoundTime'. -/
def soundTimeUptoCard : Claim7 := { stood := { row := soundTimeUptoRow, standIns := [], harness := (true, "26c9aa473be47509ffbbc2ce1141968f79bc9a4c7852ada1729f2d7c83ba6db9"), looks := false }, kinds := [], alts := [], laidByText := true, laidKinds := [.data], laidTests := true, laidLooks := .later }
def SoundTimeUptoCardSaid : Prop := Claim7.holds Tryz.pinned (.plain (OpenSpec.upto soundTimeSpec)) soundTimeUptoCard
end Rows
end Go.Proofs.YthhlipkkjippfaaGreatDoor
