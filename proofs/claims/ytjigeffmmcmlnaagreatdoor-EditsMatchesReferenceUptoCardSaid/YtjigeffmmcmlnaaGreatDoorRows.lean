/-
  NARROWER THAN 'FOR EVERY INPUT', by the rows' own cells (each row's printed sentence says how): EditsMatchesReference: laid · EditsApply: laid · EditsOrder: laid · EditsMerge: laid · EditsLast: laid · EditsUndo: laid.
  DERIVED. THE GIVEN ROWS OF THIS SEAT. 6 by the template 'for every input the law returns true; each argument reads behind the call as it read before'; 0 by the template 'total and deterministic' (their statements: YtjigeffmmcmlnaaGreatDoorTotals.lean).
  GIVEN WITH THE SEED: the statements are not yours to turn. If you find one false, say at which input.
  Laid BY PROGRAM, IN A SANDBOX (cutbox-rows.mjs): the forced cells as the released guide's own fill.sh prints them over the translation a8d52a4be5bd707e… (all of the seat's roots in one cut). By AI agents, Wed Nov 11 2026. No macro, syntax, notation, axiom, sorry.
-/
import Derived.Test.YtjigeffmmcmlnaaGreatDoorChecked
import GoSem.Claim
import GoSem.ClaimJoined
import GoSem.ClaimMapViews
import Derived.JoinedTies
import Derived.KernelRfl
namespace Go.Proofs.YtjigeffmmcmlnaaGreatDoor
/- THE CELL 'sum', in the pinned program and in every row, IS THE sha256 OF THE DUMP (.gsa) THAT YtjigeffmmcmlnaaGreatDoorProg.lean LOADS. Nothing in Lean hashes anything: it is a label: what it is worth is what the hold of that sum in a sandbox is worth. -/
noncomputable def Tryz.pinned : Pinned := { name := "ytjigeffmmcmlnaagreatdoor", sum := "a8d52a4be5bd707e325203b9a1c2b5e34bab767f186f98e739d57e87c4b6f6bd", checked := Tryz.checked }
namespace Rows
def none {H : Type} : Left H := { results := [], args := [] }

/- WHAT THE LISTED PACKAGE-LEVEL VARIABLES READ AS WHEN THE CALL BEGINS. Each datum BY PROGRAM (the guide's laid-datum.mjs) off the statement by which the dump's own 'gosem.cut.vars' lays the variable. In a bare row this is a premise. The card (YtjigeffmmcmlnaaGreatDoorCards.lean) ties it to the program's text. -/
def laid_partbook_pitch_naturals {H : Type} : DataW H := .agg [.lit (.int .i64 0), .lit (.int .i64 2), .lit (.int .i64 4), .lit (.int .i64 5), .lit (.int .i64 7), .lit (.int .i64 9), .lit (.int .i64 11)]

/-- 'partbooklaw24.EditsMatchesReference': WHATEVER THE INPUT: true; the input reads as it did. -/
def editsMatchesReferenceSpec : ChangeSpec := { name := "editsMatchesReference", fn := fun _ => fun
  | [d1, d2, d3, d4] => { results := [.lit (.bool true)], args := [d1, d2, d3, d4] }
  | _ => none }
def editsMatchesReferenceRow : OpenClaim := { program := "ytjigeffmmcmlnaagreatdoor", sum := "a8d52a4be5bd707e325203b9a1c2b5e34bab767f186f98e739d57e87c4b6f6bd", func := "partbook/partbooklaw24.EditsMatchesReference", spec := "editsMatchesReference", unfollowed := true, recurses := true, named := ["partbook/pitch.naturals"], plainKeys := false, apart := false, laid := [("partbook/pitch.naturals", laid_partbook_pitch_naturals)] }
def EditsMatchesReferenceSaid : Prop := editsMatchesReferenceRow.holds Tryz.pinned (OpenSpec.ofChange editsMatchesReferenceSpec)

/-- ITS FALSE NEIGHBOUR: 'it returns false'. Refute it at one input. -/
def editsMatchesReferenceWrong : ChangeSpec := { name := "editsMatchesReference", fn := fun _ => fun
  | [d1, d2, d3, d4] => { results := [.lit (.bool false)], args := [d1, d2, d3, d4] }
  | _ => none }
def EditsMatchesReferenceWrongFalsely : Prop := editsMatchesReferenceRow.holds Tryz.pinned (OpenSpec.ofChange editsMatchesReferenceWrong)

/-- 'partbooklaw24.EditsApply': WHATEVER THE INPUT: true; the input reads as it did. -/
def editsApplySpec : ChangeSpec := { name := "editsApply", fn := fun _ => fun
  | [d1, d2] => { results := [.lit (.bool true)], args := [d1, d2] }
  | _ => none }
def editsApplyRow : OpenClaim := { program := "ytjigeffmmcmlnaagreatdoor", sum := "a8d52a4be5bd707e325203b9a1c2b5e34bab767f186f98e739d57e87c4b6f6bd", func := "partbook/partbooklaw24.EditsApply", spec := "editsApply", unfollowed := true, recurses := true, named := ["partbook/pitch.naturals"], plainKeys := false, apart := false, laid := [("partbook/pitch.naturals", laid_partbook_pitch_naturals)] }
def EditsApplySaid : Prop := editsApplyRow.holds Tryz.pinned (OpenSpec.ofChange editsApplySpec)

/-- ITS FALSE NEIGHBOUR: 'it returns false'. Refute it at one input. -/
def editsApplyWrong : ChangeSpec := { name := "editsApply", fn := fun _ => fun
  | [d1, d2] => { results := [.lit (.bool false)], args := [d1, d2] }
  | _ => none }
def EditsApplyWrongFalsely : Prop := editsApplyRow.holds Tryz.pinned (OpenSpec.ofChange editsApplyWrong)

/-- 'partbooklaw24.EditsOrder': WHATEVER THE INPUT: true; the input reads as it did. -/
def editsOrderSpec : ChangeSpec := { name := "editsOrder", fn := fun _ => fun
  | [d1, d2, d3] => { results := [.lit (.bool true)], args := [d1, d2, d3] }
  | _ => none }
def editsOrderRow : OpenClaim := { program := "ytjigeffmmcmlnaagreatdoor", sum := "a8d52a4be5bd707e325203b9a1c2b5e34bab767f186f98e739d57e87c4b6f6bd", func := "partbook/partbooklaw24.EditsOrder", spec := "editsOrder", unfollowed := true, recurses := true, named := ["partbook/pitch.naturals"], plainKeys := false, apart := false, laid := [("partbook/pitch.naturals", laid_partbook_pitch_naturals)] }
def EditsOrderSaid : Prop := editsOrderRow.holds Tryz.pinned (OpenSpec.ofChange editsOrderSpec)

/-- ITS FALSE NEIGHBOUR: 'it returns false'. Refute it at one input. -/
def editsOrderWrong : ChangeSpec := { name := "editsOrder", fn := fun _ => fun
  | [d1, d2, d3] => { results := [.lit (.bool false)], args := [d1, d2, d3] }
  | _ => none }
def EditsOrderWrongFalsely : Prop := editsOrderRow.holds Tryz.pinned (OpenSpec.ofChange editsOrderWrong)

/-- 'partbooklaw24.EditsMerge': WHATEVER THE INPUT: true; the input reads as it did. -/
def editsMergeSpec : ChangeSpec := { name := "editsMerge", fn := fun _ => fun
  | [d1, d2, d3] => { results := [.lit (.bool true)], args := [d1, d2, d3] }
  | _ => none }
def editsMergeRow : OpenClaim := { program := "ytjigeffmmcmlnaagreatdoor", sum := "a8d52a4be5bd707e325203b9a1c2b5e34bab767f186f98e739d57e87c4b6f6bd", func := "partbook/partbooklaw24.EditsMerge", spec := "editsMerge", unfollowed := true, recurses := true, named := ["partbook/pitch.naturals"], plainKeys := false, apart := false, laid := [("partbook/pitch.naturals", laid_partbook_pitch_naturals)] }
def EditsMergeSaid : Prop := editsMergeRow.holds Tryz.pinned (OpenSpec.ofChange editsMergeSpec)

/-- ITS FALSE NEIGHBOUR: 'it returns false'. Refute it at one input. -/
def editsMergeWrong : ChangeSpec := { name := "editsMerge", fn := fun _ => fun
  | [d1, d2, d3] => { results := [.lit (.bool false)], args := [d1, d2, d3] }
  | _ => none }
def EditsMergeWrongFalsely : Prop := editsMergeRow.holds Tryz.pinned (OpenSpec.ofChange editsMergeWrong)

/-- 'partbooklaw24.EditsLast': WHATEVER THE INPUT: true; the input reads as it did. -/
def editsLastSpec : ChangeSpec := { name := "editsLast", fn := fun _ => fun
  | [d1, d2] => { results := [.lit (.bool true)], args := [d1, d2] }
  | _ => none }
def editsLastRow : OpenClaim := { program := "ytjigeffmmcmlnaagreatdoor", sum := "a8d52a4be5bd707e325203b9a1c2b5e34bab767f186f98e739d57e87c4b6f6bd", func := "partbook/partbooklaw24.EditsLast", spec := "editsLast", unfollowed := true, recurses := true, named := ["partbook/pitch.naturals"], plainKeys := false, apart := false, laid := [("partbook/pitch.naturals", laid_partbook_pitch_naturals)] }
def EditsLastSaid : Prop := editsLastRow.holds Tryz.pinned (OpenSpec.ofChange editsLastSpec)

/-- ITS FALSE NEIGHBOUR: 'it returns false'. Refute it at one input. -/
def editsLastWrong : ChangeSpec := { name := "editsLast", fn := fun _ => fun
  | [d1, d2] => { results := [.lit (.bool false)], args := [d1, d2] }
  | _ => none }
def EditsLastWrongFalsely : Prop := editsLastRow.holds Tryz.pinned (OpenSpec.ofChange editsLastWrong)

/-- 'partbooklaw24.EditsUndo': WHATEVER THE INPUT: true; the input reads as it did. -/
def editsUndoSpec : ChangeSpec := { name := "editsUndo", fn := fun _ => fun
  | [d1, d2] => { results := [.lit (.bool true)], args := [d1, d2] }
  | _ => none }
def editsUndoRow : OpenClaim := { program := "ytjigeffmmcmlnaagreatdoor", sum := "a8d52a4be5bd707e325203b9a1c2b5e34bab767f186f98e739d57e87c4b6f6bd", func := "partbook/partbooklaw24.EditsUndo", spec := "editsUndo", unfollowed := true, recurses := true, named := ["partbook/pitch.naturals"], plainKeys := false, apart := false, laid := [("partbook/pitch.naturals", laid_partbook_pitch_naturals)] }
def EditsUndoSaid : Prop := editsUndoRow.holds Tryz.pinned (OpenSpec.ofChange editsUndoSpec)

/-- ITS FALSE NEIGHBOUR: 'it returns false'. Refute it at one input. -/
def editsUndoWrong : ChangeSpec := { name := "editsUndo", fn := fun _ => fun
  | [d1, d2] => { results := [.lit (.bool false)], args := [d1, d2] }
  | _ => none }
def EditsUndoWrongFalsely : Prop := editsUndoRow.holds Tryz.pinned (OpenSpec.ofChange editsUndoWrong)

/- THE SECOND FORM. 'bulk': how many values and letters a reading holds, each counted each time it is reached (what is shared counts as often as it is met; a slice's spare places count too). A statement '..UptoSaid' is the law's where the arguments, and the package variables that the reading takes, are together of bulk at most 1048576: NARROWER than '..Said'. Prove '..Said' where nothing that the law and all that it calls make is longer than what came in: it says more and counts as full. Else prove '..UptoSaid'. A law counts once. -/
mutual
def uptoBulk {H : Type} : DataW H → Nat
  | .lit (.string bytes) => bytes.length + 1
  | .lit _ => 1
  | .nil => 1
  | .ptr d => uptoBulk d + 1
  | .slice elems spare => uptoBulkAll elems + uptoBulkAll spare + 1
  | .agg parts => uptoBulkAll parts + 1
  | .iface _ d => uptoBulk d + 1
  | .map entries => uptoBulkEntries entries + 1
  | .held _ => 1
def uptoBulkAll {H : Type} : List (DataW H) → Nat
  | [] => 0
  | d :: r => uptoBulk d + uptoBulkAll r
def uptoBulkEntries {H : Type} : List (Lit × DataW H) → Nat
  | [] => 0
  | x :: r => uptoBulkEntry x + uptoBulkEntries r
def uptoBulkEntry {H : Type} : Lit × DataW H → Nat
  | (.string bytes, d) => bytes.length + uptoBulk d + 1
  | (_, d) => uptoBulk d + 1
 end
def uptoSmall : (H : Type) → List (DataW H) → Bool := fun _ ds => decide (uptoBulkAll ds ≤ 1048576)
def OpenSpec.upto (s : _root_.Go.ChangeSpec) : _root_.Go.OpenSpec := { _root_.Go.OpenSpec.ofChange s with cond := some uptoSmall }

/-- 'partbooklaw24.EditsMatchesReference', WHERE WHAT IT READS IS OF BULK AT MOST 1048576: true; the input reads as it did. -/
def editsMatchesReferenceUptoRow : OpenClaim := { program := "ytjigeffmmcmlnaagreatdoor", sum := "a8d52a4be5bd707e325203b9a1c2b5e34bab767f186f98e739d57e87c4b6f6bd", func := "partbook/partbooklaw24.EditsMatchesReference", spec := "editsMatchesReference", unfollowed := true, recurses := true, named := ["partbook/pitch.naturals"], plainKeys := false, apart := false, laid := [("partbook/pitch.naturals", laid_partbook_pitch_naturals)], narrowed := true }
def EditsMatchesReferenceUptoSaid : Prop := editsMatchesReferenceUptoRow.holds Tryz.pinned (OpenSpec.upto editsMatchesReferenceSpec)

/-- 'partbooklaw24.EditsApply', WHERE WHAT IT READS IS OF BULK AT MOST 1048576: true; the input reads as it did. -/
def editsApplyUptoRow : OpenClaim := { program := "ytjigeffmmcmlnaagreatdoor", sum := "a8d52a4be5bd707e325203b9a1c2b5e34bab767f186f98e739d57e87c4b6f6bd", func := "partbook/partbooklaw24.EditsApply", spec := "editsApply", unfollowed := true, recurses := true, named := ["partbook/pitch.naturals"], plainKeys := false, apart := false, laid := [("partbook/pitch.naturals", laid_partbook_pitch_naturals)], narrowed := true }
def EditsApplyUptoSaid : Prop := editsApplyUptoRow.holds Tryz.pinned (OpenSpec.upto editsApplySpec)

/-- 'partbooklaw24.EditsOrder', WHERE WHAT IT READS IS OF BULK AT MOST 1048576: true; the input reads as it did. -/
def editsOrderUptoRow : OpenClaim := { program := "ytjigeffmmcmlnaagreatdoor", sum := "a8d52a4be5bd707e325203b9a1c2b5e34bab767f186f98e739d57e87c4b6f6bd", func := "partbook/partbooklaw24.EditsOrder", spec := "editsOrder", unfollowed := true, recurses := true, named := ["partbook/pitch.naturals"], plainKeys := false, apart := false, laid := [("partbook/pitch.naturals", laid_partbook_pitch_naturals)], narrowed := true }
def EditsOrderUptoSaid : Prop := editsOrderUptoRow.holds Tryz.pinned (OpenSpec.upto editsOrderSpec)

/-- 'partbooklaw24.EditsMerge', WHERE WHAT IT READS IS OF BULK AT MOST 1048576: true; the input reads as it did. -/
def editsMergeUptoRow : OpenClaim := { program := "ytjigeffmmcmlnaagreatdoor", sum := "a8d52a4be5bd707e325203b9a1c2b5e34bab767f186f98e739d57e87c4b6f6bd", func := "partbook/partbooklaw24.EditsMerge", spec := "editsMerge", unfollowed := true, recurses := true, named := ["partbook/pitch.naturals"], plainKeys := false, apart := false, laid := [("partbook/pitch.naturals", laid_partbook_pitch_naturals)], narrowed := true }
def EditsMergeUptoSaid : Prop := editsMergeUptoRow.holds Tryz.pinned (OpenSpec.upto editsMergeSpec)

/-- 'partbooklaw24.EditsLast', WHERE WHAT IT READS IS OF BULK AT MOST 1048576: true; the input reads as it did. -/
def editsLastUptoRow : OpenClaim := { program := "ytjigeffmmcmlnaagreatdoor", sum := "a8d52a4be5bd707e325203b9a1c2b5e34bab767f186f98e739d57e87c4b6f6bd", func := "partbook/partbooklaw24.EditsLast", spec := "editsLast", unfollowed := true, recurses := true, named := ["partbook/pitch.naturals"], plainKeys := false, apart := false, laid := [("partbook/pitch.naturals", laid_partbook_pitch_naturals)], narrowed := true }
def EditsLastUptoSaid : Prop := editsLastUptoRow.holds Tryz.pinned (OpenSpec.upto editsLastSpec)

/-- 'partbooklaw24.EditsUndo', WHERE WHAT IT READS IS OF BULK AT MOST 1048576: true; the input reads as it did. -/
def editsUndoUptoRow : OpenClaim := { program := "ytjigeffmmcmlnaagreatdoor", sum := "a8d52a4be5bd707e325203b9a1c2b5e34bab767f186f98e739d57e87c4b6f6bd", func := "partbook/partbooklaw24.EditsUndo", spec := "editsUndo", unfollowed := true, recurses := true, named := ["partbook/pitch.naturals"], plainKeys := false, apart := false, laid := [("partbook/pitch.naturals", laid_partbook_pitch_naturals)], narrowed := true }
def EditsUndoUptoSaid : Prop := editsUndoUptoRow.holds Tryz.pinned (OpenSpec.upto editsUndoSpec)

end Rows
end Go.Proofs.YtjigeffmmcmlnaaGreatDoor
