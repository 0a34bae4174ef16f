/-
  NARROWER THAN 'FOR EVERY INPUT', by the rows' own cells (each row's printed sentence says how): DivisiMatchesReference: laid · DivisiDesks: laid · DivisiTogether: laid · DivisiOssias: laid.
  DERIVED. THE GIVEN ROWS OF THIS SEAT. 4 by the template 'for every input the law returns true; each argument reads behind the call as it read before'; 0 by the template 'total and deterministic' (their statements: YtjfkfkjkbgiciaaGreatDoorTotals.lean).
  GIVEN WITH THE SEED: the statements are not yours to turn. If you find one false, say at which input.
  Laid BY PROGRAM, IN A SANDBOX (cutbox-rows.mjs): the forced cells as the released guide's own fill.sh prints them over the translation c0ec42794f8933ad… (all of the seat's roots in one cut). By AI agents, Wed Nov 11 2026. No macro, syntax, notation, axiom, sorry.
-/
import Derived.Test.YtjfkfkjkbgiciaaGreatDoorChecked
import GoSem.Claim
import GoSem.ClaimJoined
import GoSem.ClaimMapViews
import Derived.JoinedTies
import Derived.KernelRfl
namespace Go.Proofs.YtjfkfkjkbgiciaaGreatDoor
/- THE CELL 'sum', in the pinned program and in every row, IS THE sha256 OF THE DUMP (.gsa) THAT YtjfkfkjkbgiciaaGreatDoorProg.lean LOADS. Nothing in Lean hashes anything: it is a label: what it is worth is what the hold of that sum in a sandbox is worth. -/
noncomputable def Tryz.pinned : Pinned := { name := "ytjfkfkjkbgiciaagreatdoor", sum := "c0ec42794f8933add23f89d15fe61712b4fff8fde1106cc4040d43b9fd70d77b", checked := Tryz.checked }
namespace Rows
def none {H : Type} : Left H := { results := [], args := [] }

/- WHAT THE LISTED PACKAGE-LEVEL VARIABLES READ AS WHEN THE CALL BEGINS. Each datum BY PROGRAM (the guide's laid-datum.mjs) off the statement by which the dump's own 'gosem.cut.vars' lays the variable. In a bare row this is a premise. The card (YtjfkfkjkbgiciaaGreatDoorCards.lean) ties it to the program's text. -/
def laid_partbook_pitch_naturals {H : Type} : DataW H := .agg [.lit (.int .i64 0), .lit (.int .i64 2), .lit (.int .i64 4), .lit (.int .i64 5), .lit (.int .i64 7), .lit (.int .i64 9), .lit (.int .i64 11)]

/-- 'partbooklaw18.DivisiMatchesReference': WHATEVER THE INPUT: true; the input reads as it did. -/
def divisiMatchesReferenceSpec : ChangeSpec := { name := "divisiMatchesReference", fn := fun _ => fun
  | [d1, d2, d3, d4] => { results := [.lit (.bool true)], args := [d1, d2, d3, d4] }
  | _ => none }
def divisiMatchesReferenceRow : OpenClaim := { program := "ytjfkfkjkbgiciaagreatdoor", sum := "c0ec42794f8933add23f89d15fe61712b4fff8fde1106cc4040d43b9fd70d77b", func := "partbook/partbooklaw18.DivisiMatchesReference", spec := "divisiMatchesReference", unfollowed := true, recurses := true, named := ["partbook/pitch.naturals"], apart := false, laid := [("partbook/pitch.naturals", laid_partbook_pitch_naturals)] }
def DivisiMatchesReferenceSaid : Prop := divisiMatchesReferenceRow.holds Tryz.pinned (OpenSpec.ofChange divisiMatchesReferenceSpec)

/-- ITS FALSE NEIGHBOUR: 'it returns false'. Refute it at one input. -/
def divisiMatchesReferenceWrong : ChangeSpec := { name := "divisiMatchesReference", fn := fun _ => fun
  | [d1, d2, d3, d4] => { results := [.lit (.bool false)], args := [d1, d2, d3, d4] }
  | _ => none }
def DivisiMatchesReferenceWrongFalsely : Prop := divisiMatchesReferenceRow.holds Tryz.pinned (OpenSpec.ofChange divisiMatchesReferenceWrong)

/-- 'partbooklaw18.DivisiDesks': WHATEVER THE INPUT: true; the input reads as it did. -/
def divisiDesksSpec : ChangeSpec := { name := "divisiDesks", fn := fun _ => fun
  | [d1, d2] => { results := [.lit (.bool true)], args := [d1, d2] }
  | _ => none }
def divisiDesksRow : OpenClaim := { program := "ytjfkfkjkbgiciaagreatdoor", sum := "c0ec42794f8933add23f89d15fe61712b4fff8fde1106cc4040d43b9fd70d77b", func := "partbook/partbooklaw18.DivisiDesks", spec := "divisiDesks", unfollowed := true, recurses := true, named := ["partbook/pitch.naturals"], apart := false, laid := [("partbook/pitch.naturals", laid_partbook_pitch_naturals)] }
def DivisiDesksSaid : Prop := divisiDesksRow.holds Tryz.pinned (OpenSpec.ofChange divisiDesksSpec)

/-- ITS FALSE NEIGHBOUR: 'it returns false'. Refute it at one input. -/
def divisiDesksWrong : ChangeSpec := { name := "divisiDesks", fn := fun _ => fun
  | [d1, d2] => { results := [.lit (.bool false)], args := [d1, d2] }
  | _ => none }
def DivisiDesksWrongFalsely : Prop := divisiDesksRow.holds Tryz.pinned (OpenSpec.ofChange divisiDesksWrong)

/-- 'partbooklaw18.DivisiTogether': WHATEVER THE INPUT: true; the input reads as it did. -/
def divisiTogetherSpec : ChangeSpec := { name := "divisiTogether", fn := fun _ => fun
  | [d1, d2] => { results := [.lit (.bool true)], args := [d1, d2] }
  | _ => none }
def divisiTogetherRow : OpenClaim := { program := "ytjfkfkjkbgiciaagreatdoor", sum := "c0ec42794f8933add23f89d15fe61712b4fff8fde1106cc4040d43b9fd70d77b", func := "partbook/partbooklaw18.DivisiTogether", spec := "divisiTogether", unfollowed := true, recurses := true, named := ["partbook/pitch.naturals"], apart := false, laid := [("partbook/pitch.naturals", laid_partbook_pitch_naturals)] }
def DivisiTogetherSaid : Prop := divisiTogetherRow.holds Tryz.pinned (OpenSpec.ofChange divisiTogetherSpec)

/-- ITS FALSE NEIGHBOUR: 'it returns false'. Refute it at one input. -/
def divisiTogetherWrong : ChangeSpec := { name := "divisiTogether", fn := fun _ => fun
  | [d1, d2] => { results := [.lit (.bool false)], args := [d1, d2] }
  | _ => none }
def DivisiTogetherWrongFalsely : Prop := divisiTogetherRow.holds Tryz.pinned (OpenSpec.ofChange divisiTogetherWrong)

/-- 'partbooklaw18.DivisiOssias': WHATEVER THE INPUT: true; the input reads as it did. -/
def divisiOssiasSpec : ChangeSpec := { name := "divisiOssias", fn := fun _ => fun
  | [d1, d2] => { results := [.lit (.bool true)], args := [d1, d2] }
  | _ => none }
def divisiOssiasRow : OpenClaim := { program := "ytjfkfkjkbgiciaagreatdoor", sum := "c0ec42794f8933add23f89d15fe61712b4fff8fde1106cc4040d43b9fd70d77b", func := "partbook/partbooklaw18.DivisiOssias", spec := "divisiOssias", unfollowed := true, recurses := true, named := ["partbook/pitch.naturals"], apart := false, laid := [("partbook/pitch.naturals", laid_partbook_pitch_naturals)] }
def DivisiOssiasSaid : Prop := divisiOssiasRow.holds Tryz.pinned (OpenSpec.ofChange divisiOssiasSpec)

/-- ITS FALSE NEIGHBOUR: 'it returns false'. Refute it at one input. -/
def divisiOssiasWrong : ChangeSpec := { name := "divisiOssias", fn := fun _ => fun
  | [d1, d2] => { results := [.lit (.bool false)], args := [d1, d2] }
  | _ => none }
def DivisiOssiasWrongFalsely : Prop := divisiOssiasRow.holds Tryz.pinned (OpenSpec.ofChange divisiOssiasWrong)

/- THE SECOND FORM. 'bulk': how many values and letters a reading holds, each counted each time it is reached (what is shared counts as often as it is met; a slice's spare places count too). A statement '..UptoSaid' is the law's where the arguments, and the package variables that the reading takes, are together of bulk at most 1048576: NARROWER than '..Said'. Prove '..Said' where nothing that the law and all that it calls make is longer than what came in: it says more and counts as full. Else prove '..UptoSaid'. A law counts once. -/
mutual
def uptoBulk {H : Type} : DataW H → Nat
  | .lit (.string bytes) => bytes.length + 1
  | .lit _ => 1
  | .nil => 1
  | .ptr d => uptoBulk d + 1
  | .slice elems spare => uptoBulkAll elems + uptoBulkAll spare + 1
  | .agg parts => uptoBulkAll parts + 1
  | .iface _ d => uptoBulk d + 1
  | .map entries => uptoBulkEntries entries + 1
  | .held _ => 1
def uptoBulkAll {H : Type} : List (DataW H) → Nat
  | [] => 0
  | d :: r => uptoBulk d + uptoBulkAll r
def uptoBulkEntries {H : Type} : List (Lit × DataW H) → Nat
  | [] => 0
  | x :: r => uptoBulkEntry x + uptoBulkEntries r
def uptoBulkEntry {H : Type} : Lit × DataW H → Nat
  | (.string bytes, d) => bytes.length + uptoBulk d + 1
  | (_, d) => uptoBulk d + 1
 end
def uptoSmall : (H : Type) → List (DataW H) → Bool := fun _ ds => decide (uptoBulkAll ds ≤ 1048576)
def OpenSpec.upto (s : _root_.Go.ChangeSpec) : _root_.Go.OpenSpec := { _root_.Go.OpenSpec.ofChange s with cond := some uptoSmall }

/-- 'partbooklaw18.DivisiMatchesReference', WHERE WHAT IT READS IS OF BULK AT MOST 1048576: true; the input reads as it did. -/
def divisiMatchesReferenceUptoRow : OpenClaim := { program := "ytjfkfkjkbgiciaagreatdoor", sum := "c0ec42794f8933add23f89d15fe61712b4fff8fde1106cc4040d43b9fd70d77b", func := "partbook/partbooklaw18.DivisiMatchesReference", spec := "divisiMatchesReference", unfollowed := true, recurses := true, named := ["partbook/pitch.naturals"], apart := false, laid := [("partbook/pitch.naturals", laid_partbook_pitch_naturals)], narrowed := true }
def DivisiMatchesReferenceUptoSaid : Prop := divisiMatchesReferenceUptoRow.holds Tryz.pinned (OpenSpec.upto divisiMatchesReferenceSpec)

/-- 'partbooklaw18.DivisiDesks', WHERE WHAT IT READS IS OF BULK AT MOST 1048576: true; the input reads as it did. -/
def divisiDesksUptoRow : OpenClaim := { program := "ytjfkfkjkbgiciaagreatdoor", sum := "c0ec42794f8933add23f89d15fe61712b4fff8fde1106cc4040d43b9fd70d77b", func := "partbook/partbooklaw18.DivisiDesks", spec := "divisiDesks", unfollowed := true, recurses := true, named := ["partbook/pitch.naturals"], apart := false, laid := [("partbook/pitch.naturals", laid_partbook_pitch_naturals)], narrowed := true }
def DivisiDesksUptoSaid : Prop := divisiDesksUptoRow.holds Tryz.pinned (OpenSpec.upto divisiDesksSpec)

/-- 'partbooklaw18.DivisiTogether', WHERE WHAT IT READS IS OF BULK AT MOST 1048576: true; the input reads as it did. -/
def divisiTogetherUptoRow : OpenClaim := { program := "ytjfkfkjkbgiciaagreatdoor", sum := "c0ec42794f8933add23f89d15fe61712b4fff8fde1106cc4040d43b9fd70d77b", func := "partbook/partbooklaw18.DivisiTogether", spec := "divisiTogether", unfollowed := true, recurses := true, named := ["partbook/pitch.naturals"], apart := false, laid := [("partbook/pitch.naturals", laid_partbook_pitch_naturals)], narrowed := true }
def DivisiTogetherUptoSaid : Prop := divisiTogetherUptoRow.holds Tryz.pinned (OpenSpec.upto divisiTogetherSpec)

/-- 'partbooklaw18.DivisiOssias', WHERE WHAT IT READS IS OF BULK AT MOST 1048576: true; the input reads as it did. -/
def divisiOssiasUptoRow : OpenClaim := { program := "ytjfkfkjkbgiciaagreatdoor", sum := "c0ec42794f8933add23f89d15fe61712b4fff8fde1106cc4040d43b9fd70d77b", func := "partbook/partbooklaw18.DivisiOssias", spec := "divisiOssias", unfollowed := true, recurses := true, named := ["partbook/pitch.naturals"], apart := false, laid := [("partbook/pitch.naturals", laid_partbook_pitch_naturals)], narrowed := true }
def DivisiOssiasUptoSaid : Prop := divisiOssiasUptoRow.holds Tryz.pinned (OpenSpec.upto divisiOssiasSpec)

end Rows
end Go.Proofs.YtjfkfkjkbgiciaaGreatDoor
