/-
  No cell of these rows narrows 'for every input' (looked for: loops, veiled, ifaces, maps, wideKeys, modest, calm, conditions, laid).
  DERIVED. THE GIVEN ROWS OF THIS SEAT. 6 by the template 'for every input the law returns true; each argument reads behind the call as it read before'; 0 by the template 'total and deterministic' (their statements: YtpbhcpeilgmkeaaTotals.lean).
  GIVEN WITH THE SEED: the statements are not yours to turn. If you find one false, say at which input.
  Laid BY PROGRAM, IN A SANDBOX (cutbox-rows.mjs): the forced cells as the released guide's own fill.sh prints them over the translation c9b0c81ea58bc546… (all of the seat's roots in one cut). By AI agents, Wed Nov 11 2026. No macro, syntax, notation, axiom, sorry.
-/
import Derived.Test.YtpbhcpeilgmkeaaChecked
import GoSem.Claim
import GoSem.ClaimJoined
import GoSem.ClaimMapViews
import Derived.JoinedTies
import Derived.KernelRfl
namespace Go.Proofs.Ytpbhcpeilgmkeaa
/- THE CELL 'sum', in the pinned program and in every row, IS THE sha256 OF THE DUMP (.gsa) THAT YtpbhcpeilgmkeaaProg.lean LOADS. Nothing in Lean hashes anything: it is a label: what it is worth is what the hold of that sum in a sandbox is worth. -/
noncomputable def Try.pinned : Pinned := { name := "ytpbhcpeilgmkeaa", sum := "c9b0c81ea58bc5464d0376180d1f2f87692f1f49ea5c92fb68e6b86cfeb86a1a", checked := Try.checked }
namespace Rows
def none {H : Type} : Left H := { results := [], args := [] }

/-- 'partbooklaw22.EventsMatchesReference': WHATEVER THE INPUT: true; the input reads as it did. -/
def eventsMatchesReferenceSpec : ChangeSpec := { name := "eventsMatchesReference", fn := fun _ => fun
  | [d1, d2, d3] => { results := [.lit (.bool true)], args := [d1, d2, d3] }
  | _ => none }
def eventsMatchesReferenceRow : OpenClaim := { program := "ytpbhcpeilgmkeaa", sum := "c9b0c81ea58bc5464d0376180d1f2f87692f1f49ea5c92fb68e6b86cfeb86a1a", func := "partbook/partbooklaw22.EventsMatchesReference", spec := "eventsMatchesReference", unfollowed := true, recurses := true, apart := false }
def EventsMatchesReferenceSaid : Prop := eventsMatchesReferenceRow.holds Try.pinned (OpenSpec.ofChange eventsMatchesReferenceSpec)

/-- ITS FALSE NEIGHBOUR: 'it returns false'. Refute it at one input. -/
def eventsMatchesReferenceWrong : ChangeSpec := { name := "eventsMatchesReference", fn := fun _ => fun
  | [d1, d2, d3] => { results := [.lit (.bool false)], args := [d1, d2, d3] }
  | _ => none }
def EventsMatchesReferenceWrongFalsely : Prop := eventsMatchesReferenceRow.holds Try.pinned (OpenSpec.ofChange eventsMatchesReferenceWrong)

/-- 'partbooklaw22.EventsOrder': WHATEVER THE INPUT: true; the input reads as it did. -/
def eventsOrderSpec : ChangeSpec := { name := "eventsOrder", fn := fun _ => fun
  | [d1, d2, d3] => { results := [.lit (.bool true)], args := [d1, d2, d3] }
  | _ => none }
def eventsOrderRow : OpenClaim := { program := "ytpbhcpeilgmkeaa", sum := "c9b0c81ea58bc5464d0376180d1f2f87692f1f49ea5c92fb68e6b86cfeb86a1a", func := "partbook/partbooklaw22.EventsOrder", spec := "eventsOrder", unfollowed := true, recurses := true, apart := false }
def EventsOrderSaid : Prop := eventsOrderRow.holds Try.pinned (OpenSpec.ofChange eventsOrderSpec)

/-- ITS FALSE NEIGHBOUR: 'it returns false'. Refute it at one input. -/
def eventsOrderWrong : ChangeSpec := { name := "eventsOrder", fn := fun _ => fun
  | [d1, d2, d3] => { results := [.lit (.bool false)], args := [d1, d2, d3] }
  | _ => none }
def EventsOrderWrongFalsely : Prop := eventsOrderRow.holds Try.pinned (OpenSpec.ofChange eventsOrderWrong)

/-- 'partbooklaw22.EventsJoin': WHATEVER THE INPUT: true; the input reads as it did. -/
def eventsJoinSpec : ChangeSpec := { name := "eventsJoin", fn := fun _ => fun
  | [d1, d2, d3, d4] => { results := [.lit (.bool true)], args := [d1, d2, d3, d4] }
  | _ => none }
def eventsJoinRow : OpenClaim := { program := "ytpbhcpeilgmkeaa", sum := "c9b0c81ea58bc5464d0376180d1f2f87692f1f49ea5c92fb68e6b86cfeb86a1a", func := "partbook/partbooklaw22.EventsJoin", spec := "eventsJoin", unfollowed := true, recurses := true, apart := false }
def EventsJoinSaid : Prop := eventsJoinRow.holds Try.pinned (OpenSpec.ofChange eventsJoinSpec)

/-- ITS FALSE NEIGHBOUR: 'it returns false'. Refute it at one input. -/
def eventsJoinWrong : ChangeSpec := { name := "eventsJoin", fn := fun _ => fun
  | [d1, d2, d3, d4] => { results := [.lit (.bool false)], args := [d1, d2, d3, d4] }
  | _ => none }
def EventsJoinWrongFalsely : Prop := eventsJoinRow.holds Try.pinned (OpenSpec.ofChange eventsJoinWrong)

/-- 'partbooklaw22.EventsLast': WHATEVER THE INPUT: true; the input reads as it did. -/
def eventsLastSpec : ChangeSpec := { name := "eventsLast", fn := fun _ => fun
  | [d] => { results := [.lit (.bool true)], args := [d] }
  | _ => none }
def eventsLastRow : OpenClaim := { program := "ytpbhcpeilgmkeaa", sum := "c9b0c81ea58bc5464d0376180d1f2f87692f1f49ea5c92fb68e6b86cfeb86a1a", func := "partbook/partbooklaw22.EventsLast", spec := "eventsLast", unfollowed := true, recurses := true, apart := false }
def EventsLastSaid : Prop := eventsLastRow.holds Try.pinned (OpenSpec.ofChange eventsLastSpec)

/-- ITS FALSE NEIGHBOUR: 'it returns false'. Refute it at one input. -/
def eventsLastWrong : ChangeSpec := { name := "eventsLast", fn := fun _ => fun
  | [d] => { results := [.lit (.bool false)], args := [d] }
  | _ => none }
def EventsLastWrongFalsely : Prop := eventsLastRow.holds Try.pinned (OpenSpec.ofChange eventsLastWrong)

/-- 'partbooklaw22.EventsErase': WHATEVER THE INPUT: true; the input reads as it did. -/
def eventsEraseSpec : ChangeSpec := { name := "eventsErase", fn := fun _ => fun
  | [d1, d2, d3, d4] => { results := [.lit (.bool true)], args := [d1, d2, d3, d4] }
  | _ => none }
def eventsEraseRow : OpenClaim := { program := "ytpbhcpeilgmkeaa", sum := "c9b0c81ea58bc5464d0376180d1f2f87692f1f49ea5c92fb68e6b86cfeb86a1a", func := "partbook/partbooklaw22.EventsErase", spec := "eventsErase", unfollowed := true, recurses := true, apart := false }
def EventsEraseSaid : Prop := eventsEraseRow.holds Try.pinned (OpenSpec.ofChange eventsEraseSpec)

/-- ITS FALSE NEIGHBOUR: 'it returns false'. Refute it at one input. -/
def eventsEraseWrong : ChangeSpec := { name := "eventsErase", fn := fun _ => fun
  | [d1, d2, d3, d4] => { results := [.lit (.bool false)], args := [d1, d2, d3, d4] }
  | _ => none }
def EventsEraseWrongFalsely : Prop := eventsEraseRow.holds Try.pinned (OpenSpec.ofChange eventsEraseWrong)

/-- 'partbooklaw22.EventsKnown': WHATEVER THE INPUT: true; the input reads as it did. -/
def eventsKnownSpec : ChangeSpec := { name := "eventsKnown", fn := fun _ => fun
  | [d1, d2, d3] => { results := [.lit (.bool true)], args := [d1, d2, d3] }
  | _ => none }
def eventsKnownRow : OpenClaim := { program := "ytpbhcpeilgmkeaa", sum := "c9b0c81ea58bc5464d0376180d1f2f87692f1f49ea5c92fb68e6b86cfeb86a1a", func := "partbook/partbooklaw22.EventsKnown", spec := "eventsKnown", unfollowed := true, recurses := true, apart := false }
def EventsKnownSaid : Prop := eventsKnownRow.holds Try.pinned (OpenSpec.ofChange eventsKnownSpec)

/-- ITS FALSE NEIGHBOUR: 'it returns false'. Refute it at one input. -/
def eventsKnownWrong : ChangeSpec := { name := "eventsKnown", fn := fun _ => fun
  | [d1, d2, d3] => { results := [.lit (.bool false)], args := [d1, d2, d3] }
  | _ => none }
def EventsKnownWrongFalsely : Prop := eventsKnownRow.holds Try.pinned (OpenSpec.ofChange eventsKnownWrong)

/- THE SECOND FORM. 'bulk': how many values and letters a reading holds, each counted each time it is reached (what is shared counts as often as it is met; a slice's spare places count too). A statement '..UptoSaid' is the law's where the arguments, and the package variables that the reading takes, are together of bulk at most 1048576: NARROWER than '..Said'. Prove '..Said' where nothing that the law and all that it calls make is longer than what came in: it says more and counts as full. Else prove '..UptoSaid'. A law counts once. -/
mutual
def uptoBulk {H : Type} : DataW H → Nat
  | .lit (.string bytes) => bytes.length + 1
  | .lit _ => 1
  | .nil => 1
  | .ptr d => uptoBulk d + 1
  | .slice elems spare => uptoBulkAll elems + uptoBulkAll spare + 1
  | .agg parts => uptoBulkAll parts + 1
  | .iface _ d => uptoBulk d + 1
  | .map entries => uptoBulkEntries entries + 1
  | .held _ => 1
def uptoBulkAll {H : Type} : List (DataW H) → Nat
  | [] => 0
  | d :: r => uptoBulk d + uptoBulkAll r
def uptoBulkEntries {H : Type} : List (Lit × DataW H) → Nat
  | [] => 0
  | x :: r => uptoBulkEntry x + uptoBulkEntries r
def uptoBulkEntry {H : Type} : Lit × DataW H → Nat
  | (.string bytes, d) => bytes.length + uptoBulk d + 1
  | (_, d) => uptoBulk d + 1
 end
def uptoSmall : (H : Type) → List (DataW H) → Bool := fun _ ds => decide (uptoBulkAll ds ≤ 1048576)
def OpenSpec.upto (s : _root_.Go.ChangeSpec) : _root_.Go.OpenSpec := { _root_.Go.OpenSpec.ofChange s with cond := some uptoSmall }

/-- 'partbooklaw22.EventsMatchesReference', WHERE WHAT IT READS IS OF BULK AT MOST 1048576: true; the input reads as it did. -/
def eventsMatchesReferenceUptoRow : OpenClaim := { program := "ytpbhcpeilgmkeaa", sum := "c9b0c81ea58bc5464d0376180d1f2f87692f1f49ea5c92fb68e6b86cfeb86a1a", func := "partbook/partbooklaw22.EventsMatchesReference", spec := "eventsMatchesReference", unfollowed := true, recurses := true, apart := false, narrowed := true }
def EventsMatchesReferenceUptoSaid : Prop := eventsMatchesReferenceUptoRow.holds Try.pinned (OpenSpec.upto eventsMatchesReferenceSpec)

/-- 'partbooklaw22.EventsOrder', WHERE WHAT IT READS IS OF BULK AT MOST 1048576: true; the input reads as it did. -/
def eventsOrderUptoRow : OpenClaim := { program := "ytpbhcpeilgmkeaa", sum := "c9b0c81ea58bc5464d0376180d1f2f87692f1f49ea5c92fb68e6b86cfeb86a1a", func := "partbook/partbooklaw22.EventsOrder", spec := "eventsOrder", unfollowed := true, recurses := true, apart := false, narrowed := true }
def EventsOrderUptoSaid : Prop := eventsOrderUptoRow.holds Try.pinned (OpenSpec.upto eventsOrderSpec)

/-- 'partbooklaw22.EventsJoin', WHERE WHAT IT READS IS OF BULK AT MOST 1048576: true; the input reads as it did. -/
def eventsJoinUptoRow : OpenClaim := { program := "ytpbhcpeilgmkeaa", sum := "c9b0c81ea58bc5464d0376180d1f2f87692f1f49ea5c92fb68e6b86cfeb86a1a", func := "partbook/partbooklaw22.EventsJoin", spec := "eventsJoin", unfollowed := true, recurses := true, apart := false, narrowed := true }
def EventsJoinUptoSaid : Prop := eventsJoinUptoRow.holds Try.pinned (OpenSpec.upto eventsJoinSpec)

/-- 'partbooklaw22.EventsLast', WHERE WHAT IT READS IS OF BULK AT MOST 1048576: true; the input reads as it did. -/
def eventsLastUptoRow : OpenClaim := { program := "ytpbhcpeilgmkeaa", sum := "c9b0c81ea58bc5464d0376180d1f2f87692f1f49ea5c92fb68e6b86cfeb86a1a", func := "partbook/partbooklaw22.EventsLast", spec := "eventsLast", unfollowed := true, recurses := true, apart := false, narrowed := true }
def EventsLastUptoSaid : Prop := eventsLastUptoRow.holds Try.pinned (OpenSpec.upto eventsLastSpec)

/-- 'partbooklaw22.EventsErase', WHERE WHAT IT READS IS OF BULK AT MOST 1048576: true; the input reads as it did. -/
def eventsEraseUptoRow : OpenClaim := { program := "ytpbhcpeilgmkeaa", sum := "c9b0c81ea58bc5464d0376180d1f2f87692f1f49ea5c92fb68e6b86cfeb86a1a", func := "partbook/partbooklaw22.EventsErase", spec := "eventsErase", unfollowed := true, recurses := true, apart := false, narrowed := true }
def EventsEraseUptoSaid : Prop := eventsEraseUptoRow.holds Try.pinned (OpenSpec.upto eventsEraseSpec)

/-- 'partbooklaw22.EventsKnown', WHERE WHAT IT READS IS OF BULK AT MOST 1048576: true; the input reads as it did. -/
def eventsKnownUptoRow : OpenClaim := { program := "ytpbhcpeilgmkeaa", sum := "c9b0c81ea58bc5464d0376180d1f2f87692f1f49ea5c92fb68e6b86cfeb86a1a", func := "partbook/partbooklaw22.EventsKnown", spec := "eventsKnown", unfollowed := true, recurses := true, apart := false, narrowed := true }
def EventsKnownUptoSaid : Prop := eventsKnownUptoRow.holds Try.pinned (OpenSpec.upto eventsKnownSpec)

end Rows
end Go.Proofs.Ytpbhcpeilgmkeaa
