/-
  DERIVED. GIVEN WITH THE SEED: THE CARDS: each row of YtjfkfkjkbgiciaaGreatDoorRows.lean that lists a variable, with what it lists TIED to the program's text (the seventh form; the later family's looks); each row that meets fmt, with fmt's text TOLD by the authors' own Lean function (tested against real Go, not proved from fmt's source: count such statements apart). THE CARD IS WHAT COUNTS. Prove the row's statement (the work); the ties are given (YtjfkfkjkbgiciaaGreatDoorTie.lean); close each card by the builder's one call (the guide's Derived/Test/ToyasCard.lean, 'card_holds'). Laid BY PROGRAM, IN A SANDBOX (cutbox-door.mjs). By AI agents, Wed Nov 11 2026. No macro, syntax, notation, axiom, sorry.
-/
import Derived.Test.YtjfkfkjkbgiciaaGreatDoorRows
import GoSem.ClaimSeven
namespace Go.Proofs.YtjfkfkjkbgiciaaGreatDoor
namespace Rows

/-- THE TIED CARD OF 'partbooklaw18.DivisiMatchesReference'. -/
def divisiMatchesReferenceCard : Claim7 := { stood := { row := divisiMatchesReferenceRow, standIns := [], harness := (true, "39d14a1fe355d1603c0017005458b358fb8e161b22c2e22108a6b03d2897b68b"), looks := false }, kinds := [], alts := [], laidByText := true, laidKinds := [.data], laidTests := true, laidLooks := .later }
def DivisiMatchesReferenceCardSaid : Prop := Claim7.holds Tryz.pinned (.plain (OpenSpec.ofChange divisiMatchesReferenceSpec)) divisiMatchesReferenceCard

/-- THE TIED CARD OF 'partbooklaw18.DivisiDesks'. -/
def divisiDesksCard : Claim7 := { stood := { row := divisiDesksRow, standIns := [], harness := (true, "39d14a1fe355d1603c0017005458b358fb8e161b22c2e22108a6b03d2897b68b"), looks := false }, kinds := [], alts := [], laidByText := true, laidKinds := [.data], laidTests := true, laidLooks := .later }
def DivisiDesksCardSaid : Prop := Claim7.holds Tryz.pinned (.plain (OpenSpec.ofChange divisiDesksSpec)) divisiDesksCard

/-- THE TIED CARD OF 'partbooklaw18.DivisiTogether'. -/
def divisiTogetherCard : Claim7 := { stood := { row := divisiTogetherRow, standIns := [], harness := (true, "39d14a1fe355d1603c0017005458b358fb8e161b22c2e22108a6b03d2897b68b"), looks := false }, kinds := [], alts := [], laidByText := true, laidKinds := [.data], laidTests := true, laidLooks := .later }
def DivisiTogetherCardSaid : Prop := Claim7.holds Tryz.pinned (.plain (OpenSpec.ofChange divisiTogetherSpec)) divisiTogetherCard

/-- THE TIED CARD OF 'partbooklaw18.DivisiOssias'. -/
def divisiOssiasCard : Claim7 := { stood := { row := divisiOssiasRow, standIns := [], harness := (true, "39d14a1fe355d1603c0017005458b358fb8e161b22c2e22108a6b03d2897b68b"), looks := false }, kinds := [], alts := [], laidByText := true, laidKinds := [.data], laidTests := true, laidLooks := .later }
def DivisiOssiasCardSaid : Prop := Claim7.holds Tryz.pinned (.plain (OpenSpec.ofChange divisiOssiasSpec)) divisiOssiasCard

/-- THE SECOND FORM's CARD OF 'partbooklaw18.DivisiMatchesReference'. -/
def divisiMatchesReferenceUptoCard : Claim7 := { stood := { row := divisiMatchesReferenceUptoRow, standIns := [], harness := (true, "39d14a1fe355d1603c0017005458b358fb8e161b22c2e22108a6b03d2897b68b"), looks := false }, kinds := [], alts := [], laidByText := true, laidKinds := [.data], laidTests := true, laidLooks := .later }
def DivisiMatchesReferenceUptoCardSaid : Prop := Claim7.holds Tryz.pinned (.plain (OpenSpec.upto divisiMatchesReferenceSpec)) divisiMatchesReferenceUptoCard

/-- THE SECOND FORM's CARD OF 'partbooklaw18.DivisiDesks'. -/
def divisiDesksUptoCard : Claim7 := { stood := { row := divisiDesksUptoRow, standIns := [], harness := (true, "39d14a1fe355d1603c0017005458b358fb8e161b22c2e22108a6b03d2897b68b"), looks := false }, kinds := [], alts := [], laidByText := true, laidKinds := [.data], laidTests := true, laidLooks := .later }
def DivisiDesksUptoCardSaid : Prop := Claim7.holds Tryz.pinned (.plain (OpenSpec.upto divisiDesksSpec)) divisiDesksUptoCard

/-- THE SECOND FORM's CARD OF 'partbooklaw18.DivisiTogether'. -/
def divisiTogetherUptoCard : Claim7 := { stood := { row := divisiTogetherUptoRow, standIns := [], harness := (true, "39d14a1fe355d1603c0017005458b358fb8e161b22c2e22108a6b03d2897b68b"), looks := false }, kinds := [], alts := [], laidByText := true, laidKinds := [.data], laidTests := true, laidLooks := .later }
def DivisiTogetherUptoCardSaid : Prop := Claim7.holds Tryz.pinned (.plain (OpenSpec.upto divisiTogetherSpec)) divisiTogetherUptoCard

/-- THE SECOND FORM's CARD OF 'partbooklaw18.DivisiOssias'. -/
def divisiOssiasUptoCard : Claim7 := { stood := { row := divisiOssiasUptoRow, standIns := [], harness := (true, "39d14a1fe355d1603c0017005458b358fb8e161b22c2e22108a6b03d2897b68b"), looks := false }, kinds := [], alts := [], laidByText := true, laidKinds := [.data], laidTests := true, laidLooks := .later }
def DivisiOssiasUptoCardSaid : Prop := Claim7.holds Tryz.pinned (.plain (OpenSpec.upto divisiOssiasSpec)) divisiOssiasUptoCard
end Rows
end Go.Proofs.YtjfkfkjkbgiciaaGreatDoor
