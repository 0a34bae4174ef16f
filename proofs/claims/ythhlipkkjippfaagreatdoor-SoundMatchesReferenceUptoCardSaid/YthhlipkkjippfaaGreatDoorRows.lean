/-
  NARROWER THAN 'FOR EVERY INPUT', by the rows' own cells (each row's printed sentence says how): SoundMatchesReference: laid · SoundTogether: laid · SoundParts: laid · SoundVisits: laid · SoundTime: laid.
  DERIVED. THE GIVEN ROWS OF THIS SEAT. 5 by the template 'for every input the law returns true; each argument reads behind the call as it read before'; 0 by the template 'total and deterministic' (their statements: YthhlipkkjippfaaGreatDoorTotals.lean).
  GIVEN WITH THE SEED: the statements are not yours to turn. If you find one false, say at which input.
  Laid BY PROGRAM, IN A SANDBOX (cutbox-rows.mjs): the forced cells as the released guide's own fill.sh prints them over the translation 3c181ed9eeec7de9… (all of the seat's roots in one cut). By AI agents, Wed Nov 11 2026. No macro, syntax, notation, axiom, sorry.
-/
import Derived.Test.YthhlipkkjippfaaGreatDoorChecked
import GoSem.Claim
import GoSem.ClaimJoined
import GoSem.ClaimMapViews
import Derived.JoinedTies
import Derived.KernelRfl
namespace Go.Proofs.YthhlipkkjippfaaGreatDoor
/- THE CELL 'sum', in the pinned program and in every row, IS THE sha256 OF THE DUMP (.gsa) THAT YthhlipkkjippfaaGreatDoorProg.lean LOADS. Nothing in Lean hashes anything: it is a label: what it is worth is what the hold of that sum in a sandbox is worth. -/
noncomputable def Tryz.pinned : Pinned := { name := "ythhlipkkjippfaagreatdoor", sum := "3c181ed9eeec7de9068c6dc7f7234c58060f686b3db047f0e6e0f4e4683cd93e", checked := Tryz.checked }
namespace Rows
def none {H : Type} : Left H := { results := [], args := [] }

/- WHAT THE LISTED PACKAGE-LEVEL VARIABLES READ AS WHEN THE CALL BEGINS. Each datum BY PROGRAM (the guide's laid-datum.mjs) off the statement by which the dump's own 'gosem.cut.vars' lays the variable. In a bare row this is a premise. The card (YthhlipkkjippfaaGreatDoorCards.lean) ties it to the program's text. -/
def laid_partbook_pitch_naturals {H : Type} : DataW H := .agg [.lit (.int .i64 0), .lit (.int .i64 2), .lit (.int .i64 4), .lit (.int .i64 5), .lit (.int .i64 7), .lit (.int .i64 9), .lit (.int .i64 11)]

/-- 'partbooklaw33.SoundMatchesReference': WHATEVER THE INPUT: true; the input reads as it did. -/
def soundMatchesReferenceSpec : ChangeSpec := { name := "soundMatchesReference", fn := fun _ => fun
  | [d1, d2, d3] => { results := [.lit (.bool true)], args := [d1, d2, d3] }
  | _ => none }
def soundMatchesReferenceRow : OpenClaim := { program := "ythhlipkkjippfaagreatdoor", sum := "3c181ed9eeec7de9068c6dc7f7234c58060f686b3db047f0e6e0f4e4683cd93e", func := "partbook/partbooklaw33.SoundMatchesReference", spec := "soundMatchesReference", unfollowed := true, recurses := true, named := ["partbook/pitch.naturals"], plainKeys := false, apart := false, laid := [("partbook/pitch.naturals", laid_partbook_pitch_naturals)] }
def SoundMatchesReferenceSaid : Prop := soundMatchesReferenceRow.holds Tryz.pinned (OpenSpec.ofChange soundMatchesReferenceSpec)

/-- ITS FALSE NEIGHBOUR: 'it returns false'. Refute it at one input. -/
def soundMatchesReferenceWrong : ChangeSpec := { name := "soundMatchesReference", fn := fun _ => fun
  | [d1, d2, d3] => { results := [.lit (.bool false)], args := [d1, d2, d3] }
  | _ => none }
def SoundMatchesReferenceWrongFalsely : Prop := soundMatchesReferenceRow.holds Tryz.pinned (OpenSpec.ofChange soundMatchesReferenceWrong)

/-- 'partbooklaw33.SoundTogether': WHATEVER THE INPUT: true; the input reads as it did. -/
def soundTogetherSpec : ChangeSpec := { name := "soundTogether", fn := fun _ => fun
  | [d1, d2] => { results := [.lit (.bool true)], args := [d1, d2] }
  | _ => none }
def soundTogetherRow : OpenClaim := { program := "ythhlipkkjippfaagreatdoor", sum := "3c181ed9eeec7de9068c6dc7f7234c58060f686b3db047f0e6e0f4e4683cd93e", func := "partbook/partbooklaw33.SoundTogether", spec := "soundTogether", unfollowed := true, recurses := true, named := ["partbook/pitch.naturals"], plainKeys := false, apart := false, laid := [("partbook/pitch.naturals", laid_partbook_pitch_naturals)] }
def SoundTogetherSaid : Prop := soundTogetherRow.holds Tryz.pinned (OpenSpec.ofChange soundTogetherSpec)

/-- ITS FALSE NEIGHBOUR: 'it returns false'. Refute it at one input. -/
def soundTogetherWrong : ChangeSpec := { name := "soundTogether", fn := fun _ => fun
  | [d1, d2] => { results := [.lit (.bool false)], args := [d1, d2] }
  | _ => none }
def SoundTogetherWrongFalsely : Prop := soundTogetherRow.holds Tryz.pinned (OpenSpec.ofChange soundTogetherWrong)

/-- 'partbooklaw33.SoundParts': WHATEVER THE INPUT: true; the input reads as it did. -/
def soundPartsSpec : ChangeSpec := { name := "soundParts", fn := fun _ => fun
  | [d1, d2, d3, d4] => { results := [.lit (.bool true)], args := [d1, d2, d3, d4] }
  | _ => none }
def soundPartsRow : OpenClaim := { program := "ythhlipkkjippfaagreatdoor", sum := "3c181ed9eeec7de9068c6dc7f7234c58060f686b3db047f0e6e0f4e4683cd93e", func := "partbook/partbooklaw33.SoundParts", spec := "soundParts", unfollowed := true, recurses := true, named := ["partbook/pitch.naturals"], plainKeys := false, apart := false, laid := [("partbook/pitch.naturals", laid_partbook_pitch_naturals)] }
def SoundPartsSaid : Prop := soundPartsRow.holds Tryz.pinned (OpenSpec.ofChange soundPartsSpec)

/-- ITS FALSE NEIGHBOUR: 'it returns false'. Refute it at one input. -/
def soundPartsWrong : ChangeSpec := { name := "soundParts", fn := fun _ => fun
  | [d1, d2, d3, d4] => { results := [.lit (.bool false)], args := [d1, d2, d3, d4] }
  | _ => none }
def SoundPartsWrongFalsely : Prop := soundPartsRow.holds Tryz.pinned (OpenSpec.ofChange soundPartsWrong)

/-- 'partbooklaw33.SoundVisits': WHATEVER THE INPUT: true; the input reads as it did. -/
def soundVisitsSpec : ChangeSpec := { name := "soundVisits", fn := fun _ => fun
  | [d1, d2, d3] => { results := [.lit (.bool true)], args := [d1, d2, d3] }
  | _ => none }
def soundVisitsRow : OpenClaim := { program := "ythhlipkkjippfaagreatdoor", sum := "3c181ed9eeec7de9068c6dc7f7234c58060f686b3db047f0e6e0f4e4683cd93e", func := "partbook/partbooklaw33.SoundVisits", spec := "soundVisits", unfollowed := true, recurses := true, named := ["partbook/pitch.naturals"], plainKeys := false, apart := false, laid := [("partbook/pitch.naturals", laid_partbook_pitch_naturals)] }
def SoundVisitsSaid : Prop := soundVisitsRow.holds Tryz.pinned (OpenSpec.ofChange soundVisitsSpec)

/-- ITS FALSE NEIGHBOUR: 'it returns false'. Refute it at one input. -/
def soundVisitsWrong : ChangeSpec := { name := "soundVisits", fn := fun _ => fun
  | [d1, d2, d3] => { results := [.lit (.bool false)], args := [d1, d2, d3] }
  | _ => none }
def SoundVisitsWrongFalsely : Prop := soundVisitsRow.holds Tryz.pinned (OpenSpec.ofChange soundVisitsWrong)

/-- 'partbooklaw33.SoundTime': WHATEVER THE INPUT: true; the input reads as it did. -/
def soundTimeSpec : ChangeSpec := { name := "soundTime", fn := fun _ => fun
  | [d1, d2] => { results := [.lit (.bool true)], args := [d1, d2] }
  | _ => none }
def soundTimeRow : OpenClaim := { program := "ythhlipkkjippfaagreatdoor", sum := "3c181ed9eeec7de9068c6dc7f7234c58060f686b3db047f0e6e0f4e4683cd93e", func := "partbook/partbooklaw33.SoundTime", spec := "soundTime", unfollowed := true, recurses := true, named := ["partbook/pitch.naturals"], plainKeys := false, apart := false, laid := [("partbook/pitch.naturals", laid_partbook_pitch_naturals)] }
def SoundTimeSaid : Prop := soundTimeRow.holds Tryz.pinned (OpenSpec.ofChange soundTimeSpec)

/-- ITS FALSE NEIGHBOUR: 'it returns false'. Refute it at one input. -/
def soundTimeWrong : ChangeSpec := { name := "soundTime", fn := fun _ => fun
  | [d1, d2] => { results := [.lit (.bool false)], args := [d1, d2] }
  | _ => none }
def SoundTimeWrongFalsely : Prop := soundTimeRow.holds Tryz.pinned (OpenSpec.ofChange soundTimeWrong)

/- THE SECOND FORM. 'bulk': how many values and letters a reading holds, each counted each time it is reached (what is shared counts as often as it is met; a slice's spare places count too). A statement '..UptoSaid' is the law's where the arguments, and the package variables that the reading takes, are together of bulk at most 1048576: NARROWER than '..Said'. Prove '..Said' where nothing that the law and all that it calls make is longer than what came in: it says more and counts as full. Else prove '..UptoSaid'. A law counts once. -/
mutual
def uptoBulk {H : Type} : DataW H → Nat
  | .lit (.string bytes) => bytes.length + 1
  | .lit _ => 1
  | .nil => 1
  | .ptr d => uptoBulk d + 1
  | .slice elems spare => uptoBulkAll elems + uptoBulkAll spare + 1
  | .agg parts => uptoBulkAll parts + 1
  | .iface _ d => uptoBulk d + 1
  | .map entries => uptoBulkEntries entries + 1
  | .held _ => 1
def uptoBulkAll {H : Type} : List (DataW H) → Nat
  | [] => 0
  | d :: r => uptoBulk d + uptoBulkAll r
def uptoBulkEntries {H : Type} : List (Lit × DataW H) → Nat
  | [] => 0
  | x :: r => uptoBulkEntry x + uptoBulkEntries r
def uptoBulkEntry {H : Type} : Lit × DataW H → Nat
  | (.string bytes, d) => bytes.length + uptoBulk d + 1
  | (_, d) => uptoBulk d + 1
 end
def uptoSmall : (H : Type) → List (DataW H) → Bool := fun _ ds => decide (uptoBulkAll ds ≤ 1048576)
def OpenSpec.upto (s : _root_.Go.ChangeSpec) : _root_.Go.OpenSpec := { _root_.Go.OpenSpec.ofChange s with cond := some uptoSmall }

/-- 'partbooklaw33.SoundMatchesReference', WHERE WHAT IT READS IS OF BULK AT MOST 1048576: true; the input reads as it did. -/
def soundMatchesReferenceUptoRow : OpenClaim := { program := "ythhlipkkjippfaagreatdoor", sum := "3c181ed9eeec7de9068c6dc7f7234c58060f686b3db047f0e6e0f4e4683cd93e", func := "partbook/partbooklaw33.SoundMatchesReference", spec := "soundMatchesReference", unfollowed := true, recurses := true, named := ["partbook/pitch.naturals"], plainKeys := false, apart := false, laid := [("partbook/pitch.naturals", laid_partbook_pitch_naturals)], narrowed := true }
def SoundMatchesReferenceUptoSaid : Prop := soundMatchesReferenceUptoRow.holds Tryz.pinned (OpenSpec.upto soundMatchesReferenceSpec)

/-- 'partbooklaw33.SoundTogether', WHERE WHAT IT READS IS OF BULK AT MOST 1048576: true; the input reads as it did. -/
def soundTogetherUptoRow : OpenClaim := { program := "ythhlipkkjippfaagreatdoor", sum := "3c181ed9eeec7de9068c6dc7f7234c58060f686b3db047f0e6e0f4e4683cd93e", func := "partbook/partbooklaw33.SoundTogether", spec := "soundTogether", unfollowed := true, recurses := true, named := ["partbook/pitch.naturals"], plainKeys := false, apart := false, laid := [("partbook/pitch.naturals", laid_partbook_pitch_naturals)], narrowed := true }
def SoundTogetherUptoSaid : Prop := soundTogetherUptoRow.holds Tryz.pinned (OpenSpec.upto soundTogetherSpec)

/-- 'partbooklaw33.SoundParts', WHERE WHAT IT READS IS OF BULK AT MOST 1048576: true; the input reads as it did. -/
def soundPartsUptoRow : OpenClaim := { program := "ythhlipkkjippfaagreatdoor", sum := "3c181ed9eeec7de9068c6dc7f7234c58060f686b3db047f0e6e0f4e4683cd93e", func := "partbook/partbooklaw33.SoundParts", spec := "soundParts", unfollowed := true, recurses := true, named := ["partbook/pitch.naturals"], plainKeys := false, apart := false, laid := [("partbook/pitch.naturals", laid_partbook_pitch_naturals)], narrowed := true }
def SoundPartsUptoSaid : Prop := soundPartsUptoRow.holds Tryz.pinned (OpenSpec.upto soundPartsSpec)

/-- 'partbooklaw33.SoundVisits', WHERE WHAT IT READS IS OF BULK AT MOST 1048576: true; the input reads as it did. -/
def soundVisitsUptoRow : OpenClaim := { program := "ythhlipkkjippfaagreatdoor", sum := "3c181ed9eeec7de9068c6dc7f7234c58060f686b3db047f0e6e0f4e4683cd93e", func := "partbook/partbooklaw33.SoundVisits", spec := "soundVisits", unfollowed := true, recurses := true, named := ["partbook/pitch.naturals"], plainKeys := false, apart := false, laid := [("partbook/pitch.naturals", laid_partbook_pitch_naturals)], narrowed := true }
def SoundVisitsUptoSaid : Prop := soundVisitsUptoRow.holds Tryz.pinned (OpenSpec.upto soundVisitsSpec)

/-- 'partbooklaw33.SoundTime', WHERE WHAT IT READS IS OF BULK AT MOST 1048576: true; the input reads as it did. -/
def soundTimeUptoRow : OpenClaim := { program := "ythhlipkkjippfaagreatdoor", sum := "3c181ed9eeec7de9068c6dc7f7234c58060f686b3db047f0e6e0f4e4683cd93e", func := "partbook/partbooklaw33.SoundTime", spec := "soundTime", unfollowed := true, recurses := true, named := ["partbook/pitch.naturals"], plainKeys := false, apart := false, laid := [("partbook/pitch.naturals", laid_partbook_pitch_naturals)], narrowed := true }
def SoundTimeUptoSaid : Prop := soundTimeUptoRow.holds Tryz.pinned (OpenSpec.upto soundTimeSpec)

end Rows
end Go.Proofs.YthhlipkkjippfaaGreatDoor
