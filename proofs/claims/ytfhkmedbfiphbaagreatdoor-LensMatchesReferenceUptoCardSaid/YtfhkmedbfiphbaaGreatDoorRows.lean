/-
  NARROWER THAN 'FOR EVERY INPUT', by the rows' own cells (each row's printed sentence says how): LensMatchesReference: laid · LensPutGet: laid · LensGetPut: laid · LensPutPut: laid · LensChanges: laid · LensOthers: laid.
  DERIVED. THE GIVEN ROWS OF THIS SEAT. 6 by the template 'for every input the law returns true; each argument reads behind the call as it read before'; 0 by the template 'total and deterministic' (their statements: YtfhkmedbfiphbaaGreatDoorTotals.lean).
  GIVEN WITH THE SEED: the statements are not yours to turn. If you find one false, say at which input.
  Laid BY PROGRAM, IN A SANDBOX (cutbox-rows.mjs): the forced cells as the released guide's own fill.sh prints them over the translation 4091805bbc35b894… (all of the seat's roots in one cut). By AI agents, Wed Nov 11 2026. No macro, syntax, notation, axiom, sorry.
-/
import Derived.Test.YtfhkmedbfiphbaaGreatDoorChecked
import GoSem.Claim
import GoSem.ClaimJoined
import GoSem.ClaimMapViews
import Derived.JoinedTies
import Derived.KernelRfl
namespace Go.Proofs.YtfhkmedbfiphbaaGreatDoor
/- THE CELL 'sum', in the pinned program and in every row, IS THE sha256 OF THE DUMP (.gsa) THAT YtfhkmedbfiphbaaGreatDoorProg.lean LOADS. Nothing in Lean hashes anything: it is a label: what it is worth is what the hold of that sum in a sandbox is worth. -/
noncomputable def Tryz.pinned : Pinned := { name := "ytfhkmedbfiphbaagreatdoor", sum := "4091805bbc35b8941e504645c6677b324ae464f3531e2799437560a40b39c84d", checked := Tryz.checked }
namespace Rows
def none {H : Type} : Left H := { results := [], args := [] }

/- WHAT THE LISTED PACKAGE-LEVEL VARIABLES READ AS WHEN THE CALL BEGINS. Each datum BY PROGRAM (the guide's laid-datum.mjs) off the statement by which the dump's own 'gosem.cut.vars' lays the variable. In a bare row this is a premise. The card (YtfhkmedbfiphbaaGreatDoorCards.lean) ties it to the program's text. -/
def laid_partbook_pitch_naturals {H : Type} : DataW H := .agg [.lit (.int .i64 0), .lit (.int .i64 2), .lit (.int .i64 4), .lit (.int .i64 5), .lit (.int .i64 7), .lit (.int .i64 9), .lit (.int .i64 11)]

/-- 'partbooklaw15.LensMatchesReference': WHATEVER THE INPUT: true; the input reads as it did. -/
def lensMatchesReferenceSpec : ChangeSpec := { name := "lensMatchesReference", fn := fun _ => fun
  | [d1, d2, d3] => { results := [.lit (.bool true)], args := [d1, d2, d3] }
  | _ => none }
def lensMatchesReferenceRow : OpenClaim := { program := "ytfhkmedbfiphbaagreatdoor", sum := "4091805bbc35b8941e504645c6677b324ae464f3531e2799437560a40b39c84d", func := "partbook/partbooklaw15.LensMatchesReference", spec := "lensMatchesReference", unfollowed := true, recurses := true, named := ["partbook/pitch.naturals"], apart := false, laid := [("partbook/pitch.naturals", laid_partbook_pitch_naturals)] }
def LensMatchesReferenceSaid : Prop := lensMatchesReferenceRow.holds Tryz.pinned (OpenSpec.ofChange lensMatchesReferenceSpec)

/-- ITS FALSE NEIGHBOUR: 'it returns false'. Refute it at one input. -/
def lensMatchesReferenceWrong : ChangeSpec := { name := "lensMatchesReference", fn := fun _ => fun
  | [d1, d2, d3] => { results := [.lit (.bool false)], args := [d1, d2, d3] }
  | _ => none }
def LensMatchesReferenceWrongFalsely : Prop := lensMatchesReferenceRow.holds Tryz.pinned (OpenSpec.ofChange lensMatchesReferenceWrong)

/-- 'partbooklaw15.LensPutGet': WHATEVER THE INPUT: true; the input reads as it did. -/
def lensPutGetSpec : ChangeSpec := { name := "lensPutGet", fn := fun _ => fun
  | [d1, d2] => { results := [.lit (.bool true)], args := [d1, d2] }
  | _ => none }
def lensPutGetRow : OpenClaim := { program := "ytfhkmedbfiphbaagreatdoor", sum := "4091805bbc35b8941e504645c6677b324ae464f3531e2799437560a40b39c84d", func := "partbook/partbooklaw15.LensPutGet", spec := "lensPutGet", unfollowed := true, recurses := true, named := ["partbook/pitch.naturals"], apart := false, laid := [("partbook/pitch.naturals", laid_partbook_pitch_naturals)] }
def LensPutGetSaid : Prop := lensPutGetRow.holds Tryz.pinned (OpenSpec.ofChange lensPutGetSpec)

/-- ITS FALSE NEIGHBOUR: 'it returns false'. Refute it at one input. -/
def lensPutGetWrong : ChangeSpec := { name := "lensPutGet", fn := fun _ => fun
  | [d1, d2] => { results := [.lit (.bool false)], args := [d1, d2] }
  | _ => none }
def LensPutGetWrongFalsely : Prop := lensPutGetRow.holds Tryz.pinned (OpenSpec.ofChange lensPutGetWrong)

/-- 'partbooklaw15.LensGetPut': WHATEVER THE INPUT: true; the input reads as it did. -/
def lensGetPutSpec : ChangeSpec := { name := "lensGetPut", fn := fun _ => fun
  | [d1, d2] => { results := [.lit (.bool true)], args := [d1, d2] }
  | _ => none }
def lensGetPutRow : OpenClaim := { program := "ytfhkmedbfiphbaagreatdoor", sum := "4091805bbc35b8941e504645c6677b324ae464f3531e2799437560a40b39c84d", func := "partbook/partbooklaw15.LensGetPut", spec := "lensGetPut", unfollowed := true, recurses := true, named := ["partbook/pitch.naturals"], apart := false, laid := [("partbook/pitch.naturals", laid_partbook_pitch_naturals)] }
def LensGetPutSaid : Prop := lensGetPutRow.holds Tryz.pinned (OpenSpec.ofChange lensGetPutSpec)

/-- ITS FALSE NEIGHBOUR: 'it returns false'. Refute it at one input. -/
def lensGetPutWrong : ChangeSpec := { name := "lensGetPut", fn := fun _ => fun
  | [d1, d2] => { results := [.lit (.bool false)], args := [d1, d2] }
  | _ => none }
def LensGetPutWrongFalsely : Prop := lensGetPutRow.holds Tryz.pinned (OpenSpec.ofChange lensGetPutWrong)

/-- 'partbooklaw15.LensPutPut': WHATEVER THE INPUT: true; the input reads as it did. -/
def lensPutPutSpec : ChangeSpec := { name := "lensPutPut", fn := fun _ => fun
  | [d1, d2, d3] => { results := [.lit (.bool true)], args := [d1, d2, d3] }
  | _ => none }
def lensPutPutRow : OpenClaim := { program := "ytfhkmedbfiphbaagreatdoor", sum := "4091805bbc35b8941e504645c6677b324ae464f3531e2799437560a40b39c84d", func := "partbook/partbooklaw15.LensPutPut", spec := "lensPutPut", unfollowed := true, recurses := true, named := ["partbook/pitch.naturals"], apart := false, laid := [("partbook/pitch.naturals", laid_partbook_pitch_naturals)] }
def LensPutPutSaid : Prop := lensPutPutRow.holds Tryz.pinned (OpenSpec.ofChange lensPutPutSpec)

/-- ITS FALSE NEIGHBOUR: 'it returns false'. Refute it at one input. -/
def lensPutPutWrong : ChangeSpec := { name := "lensPutPut", fn := fun _ => fun
  | [d1, d2, d3] => { results := [.lit (.bool false)], args := [d1, d2, d3] }
  | _ => none }
def LensPutPutWrongFalsely : Prop := lensPutPutRow.holds Tryz.pinned (OpenSpec.ofChange lensPutPutWrong)

/-- 'partbooklaw15.LensChanges': WHATEVER THE INPUT: true; the input reads as it did. -/
def lensChangesSpec : ChangeSpec := { name := "lensChanges", fn := fun _ => fun
  | [d1, d2] => { results := [.lit (.bool true)], args := [d1, d2] }
  | _ => none }
def lensChangesRow : OpenClaim := { program := "ytfhkmedbfiphbaagreatdoor", sum := "4091805bbc35b8941e504645c6677b324ae464f3531e2799437560a40b39c84d", func := "partbook/partbooklaw15.LensChanges", spec := "lensChanges", unfollowed := true, recurses := true, named := ["partbook/pitch.naturals"], apart := false, laid := [("partbook/pitch.naturals", laid_partbook_pitch_naturals)] }
def LensChangesSaid : Prop := lensChangesRow.holds Tryz.pinned (OpenSpec.ofChange lensChangesSpec)

/-- ITS FALSE NEIGHBOUR: 'it returns false'. Refute it at one input. -/
def lensChangesWrong : ChangeSpec := { name := "lensChanges", fn := fun _ => fun
  | [d1, d2] => { results := [.lit (.bool false)], args := [d1, d2] }
  | _ => none }
def LensChangesWrongFalsely : Prop := lensChangesRow.holds Tryz.pinned (OpenSpec.ofChange lensChangesWrong)

/-- 'partbooklaw15.LensOthers': WHATEVER THE INPUT: true; the input reads as it did. -/
def lensOthersSpec : ChangeSpec := { name := "lensOthers", fn := fun _ => fun
  | [d1, d2, d3] => { results := [.lit (.bool true)], args := [d1, d2, d3] }
  | _ => none }
def lensOthersRow : OpenClaim := { program := "ytfhkmedbfiphbaagreatdoor", sum := "4091805bbc35b8941e504645c6677b324ae464f3531e2799437560a40b39c84d", func := "partbook/partbooklaw15.LensOthers", spec := "lensOthers", unfollowed := true, recurses := true, named := ["partbook/pitch.naturals"], apart := false, laid := [("partbook/pitch.naturals", laid_partbook_pitch_naturals)] }
def LensOthersSaid : Prop := lensOthersRow.holds Tryz.pinned (OpenSpec.ofChange lensOthersSpec)

/-- ITS FALSE NEIGHBOUR: 'it returns false'. Refute it at one input. -/
def lensOthersWrong : ChangeSpec := { name := "lensOthers", fn := fun _ => fun
  | [d1, d2, d3] => { results := [.lit (.bool false)], args := [d1, d2, d3] }
  | _ => none }
def LensOthersWrongFalsely : Prop := lensOthersRow.holds Tryz.pinned (OpenSpec.ofChange lensOthersWrong)

/- THE SECOND FORM. 'bulk': how many values and letters a reading holds, each counted each time it is reached (what is shared counts as often as it is met; a slice's spare places count too). A statement '..UptoSaid' is the law's where the arguments, and the package variables that the reading takes, are together of bulk at most 1048576: NARROWER than '..Said'. Prove '..Said' where nothing that the law and all that it calls make is longer than what came in: it says more and counts as full. Else prove '..UptoSaid'. A law counts once. -/
mutual
def uptoBulk {H : Type} : DataW H → Nat
  | .lit (.string bytes) => bytes.length + 1
  | .lit _ => 1
  | .nil => 1
  | .ptr d => uptoBulk d + 1
  | .slice elems spare => uptoBulkAll elems + uptoBulkAll spare + 1
  | .agg parts => uptoBulkAll parts + 1
  | .iface _ d => uptoBulk d + 1
  | .map entries => uptoBulkEntries entries + 1
  | .held _ => 1
def uptoBulkAll {H : Type} : List (DataW H) → Nat
  | [] => 0
  | d :: r => uptoBulk d + uptoBulkAll r
def uptoBulkEntries {H : Type} : List (Lit × DataW H) → Nat
  | [] => 0
  | x :: r => uptoBulkEntry x + uptoBulkEntries r
def uptoBulkEntry {H : Type} : Lit × DataW H → Nat
  | (.string bytes, d) => bytes.length + uptoBulk d + 1
  | (_, d) => uptoBulk d + 1
 end
def uptoSmall : (H : Type) → List (DataW H) → Bool := fun _ ds => decide (uptoBulkAll ds ≤ 1048576)
def OpenSpec.upto (s : _root_.Go.ChangeSpec) : _root_.Go.OpenSpec := { _root_.Go.OpenSpec.ofChange s with cond := some uptoSmall }

/-- 'partbooklaw15.LensMatchesReference', WHERE WHAT IT READS IS OF BULK AT MOST 1048576: true; the input reads as it did. -/
def lensMatchesReferenceUptoRow : OpenClaim := { program := "ytfhkmedbfiphbaagreatdoor", sum := "4091805bbc35b8941e504645c6677b324ae464f3531e2799437560a40b39c84d", func := "partbook/partbooklaw15.LensMatchesReference", spec := "lensMatchesReference", unfollowed := true, recurses := true, named := ["partbook/pitch.naturals"], apart := false, laid := [("partbook/pitch.naturals", laid_partbook_pitch_naturals)], narrowed := true }
def LensMatchesReferenceUptoSaid : Prop := lensMatchesReferenceUptoRow.holds Tryz.pinned (OpenSpec.upto lensMatchesReferenceSpec)

/-- 'partbooklaw15.LensPutGet', WHERE WHAT IT READS IS OF BULK AT MOST 1048576: true; the input reads as it did. -/
def lensPutGetUptoRow : OpenClaim := { program := "ytfhkmedbfiphbaagreatdoor", sum := "4091805bbc35b8941e504645c6677b324ae464f3531e2799437560a40b39c84d", func := "partbook/partbooklaw15.LensPutGet", spec := "lensPutGet", unfollowed := true, recurses := true, named := ["partbook/pitch.naturals"], apart := false, laid := [("partbook/pitch.naturals", laid_partbook_pitch_naturals)], narrowed := true }
def LensPutGetUptoSaid : Prop := lensPutGetUptoRow.holds Tryz.pinned (OpenSpec.upto lensPutGetSpec)

/-- 'partbooklaw15.LensGetPut', WHERE WHAT IT READS IS OF BULK AT MOST 1048576: true; the input reads as it did. -/
def lensGetPutUptoRow : OpenClaim := { program := "ytfhkmedbfiphbaagreatdoor", sum := "4091805bbc35b8941e504645c6677b324ae464f3531e2799437560a40b39c84d", func := "partbook/partbooklaw15.LensGetPut", spec := "lensGetPut", unfollowed := true, recurses := true, named := ["partbook/pitch.naturals"], apart := false, laid := [("partbook/pitch.naturals", laid_partbook_pitch_naturals)], narrowed := true }
def LensGetPutUptoSaid : Prop := lensGetPutUptoRow.holds Tryz.pinned (OpenSpec.upto lensGetPutSpec)

/-- 'partbooklaw15.LensPutPut', WHERE WHAT IT READS IS OF BULK AT MOST 1048576: true; the input reads as it did. -/
def lensPutPutUptoRow : OpenClaim := { program := "ytfhkmedbfiphbaagreatdoor", sum := "4091805bbc35b8941e504645c6677b324ae464f3531e2799437560a40b39c84d", func := "partbook/partbooklaw15.LensPutPut", spec := "lensPutPut", unfollowed := true, recurses := true, named := ["partbook/pitch.naturals"], apart := false, laid := [("partbook/pitch.naturals", laid_partbook_pitch_naturals)], narrowed := true }
def LensPutPutUptoSaid : Prop := lensPutPutUptoRow.holds Tryz.pinned (OpenSpec.upto lensPutPutSpec)

/-- 'partbooklaw15.LensChanges', WHERE WHAT IT READS IS OF BULK AT MOST 1048576: true; the input reads as it did. -/
def lensChangesUptoRow : OpenClaim := { program := "ytfhkmedbfiphbaagreatdoor", sum := "4091805bbc35b8941e504645c6677b324ae464f3531e2799437560a40b39c84d", func := "partbook/partbooklaw15.LensChanges", spec := "lensChanges", unfollowed := true, recurses := true, named := ["partbook/pitch.naturals"], apart := false, laid := [("partbook/pitch.naturals", laid_partbook_pitch_naturals)], narrowed := true }
def LensChangesUptoSaid : Prop := lensChangesUptoRow.holds Tryz.pinned (OpenSpec.upto lensChangesSpec)

/-- 'partbooklaw15.LensOthers', WHERE WHAT IT READS IS OF BULK AT MOST 1048576: true; the input reads as it did. -/
def lensOthersUptoRow : OpenClaim := { program := "ytfhkmedbfiphbaagreatdoor", sum := "4091805bbc35b8941e504645c6677b324ae464f3531e2799437560a40b39c84d", func := "partbook/partbooklaw15.LensOthers", spec := "lensOthers", unfollowed := true, recurses := true, named := ["partbook/pitch.naturals"], apart := false, laid := [("partbook/pitch.naturals", laid_partbook_pitch_naturals)], narrowed := true }
def LensOthersUptoSaid : Prop := lensOthersUptoRow.holds Tryz.pinned (OpenSpec.upto lensOthersSpec)

end Rows
end Go.Proofs.YtfhkmedbfiphbaaGreatDoor
