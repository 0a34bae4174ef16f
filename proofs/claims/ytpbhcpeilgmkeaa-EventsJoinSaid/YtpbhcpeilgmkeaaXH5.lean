/-
  EventsJoin: whatever the input, the call returns true and each argument reads as it did.
  No conditions.
-/
import Derived.Test.YtpbhcpeilgmkeaaX9
set_option linter.all false
set_option linter.unnecessarySimpa false
set_option linter.deprecated false
set_option linter.unusedVariables false
set_option linter.unusedSimpArgs false
set_option linter.unusedSectionVars false
namespace Go.Proofs.Ytpbhcpeilgmkeaa
open Go Go.Eva Go.RowKit Go.ChangeShapes Go.WideShapes
set_option maxRecDepth 100000 in
theorem join_lifted (os : Os) (started : os.Started) (H : Type) (en : TypeId × Value → H) :
    ReturnsInHanded {} Try.checked os 5 .any (Rows.eventsJoinSpec.pre6 en Try.prog Try.f5 Rows.eventsJoinRow.domain false) (Rows.eventsJoinSpec.post en Try.prog Try.f5 false true false false) := by
  refine returnsInHanded_of_change (C := Try.checked) own started (by kernel_rfl) Try.func5
    (ChangeSpec.witness6 (enc := en) (C := Try.checked) false ⟨#[], #[.slice none 0 0, .slice none 0 0, .slice none 0 0, .int .u8 0], []⟩ 8 (by kernel_rfl) (by kernel_rfl) (by kernel_rfl) (by kernel_rfl)) ?_
  intro W base args ds gs before hval0 hW _ _
  have hval : ∀ (j : Nat) t v, Try.f5.params[j]? = some t → args[j]? = some v → Value.okWide Try.prog W .any base t v := hval0
  have hW' := hW
  obtain ⟨p, q, hA0, hV, rfl, _, _⟩ := hW
  have hA : DataW.TrodAll en Try.prog W 0 (fun _ => true) true Try.f5.params.toList args.toList ds p := hA0
  obtain ⟨rfl, rfl⟩ := trodVars_none hV
  have hargs := hA
  rw [Try.params5] at hA hval
  obtain ⟨v0, v1, v2, v3, d0, d1, d2, d3, p0, p1, p2, p3, rfl, rfl, rfl, h0, h1, h2, h3⟩ := trodAll_four hA
  simp only [List.append_nil] at hW'
  obtain ⟨l, _, r0⟩ := arg_one opens_22 (fun _ => rfl) (hval 0 22 v0 rfl rfl) (by kernel_rfl) h0
  obtain ⟨m, _, r1⟩ := arg_one opens_22 (fun _ => rfl) (hval 1 22 v1 rfl rfl) (by kernel_rfl) h1
  obtain ⟨n, _, r2⟩ := arg_one opens_22 (fun _ => rfl) (hval 2 22 v2 rfl rfl) (by kernel_rfl) h2
  obtain ⟨part, hp, r3⟩ := arg_one opens_5 (fun _ => rfl) (hval 3 5 v3 rfl rfl) (by kernel_rfl) h3
  have hp2 : 0 ≤ part.n ∧ part.n ≤ 255 := by simpa [Lit.wf, IntKind.has, IntKind.min, IntKind.max, IntKind.signed, IntKind.bits] using hp
  refine (run_of (ran5 l m n part hp2.1 hp2.2) rfl (fun i v d hv hd => ?_)).mono fun e W' ⟨v, J, he, hb, hr⟩ => ?_
  · rcases i with _ | _ | _ | _ | i
    · cases hv; cases hd; exact r0
    · cases hv; cases hd; exact r1
    · cases hv; cases hd; exact r2
    · cases hv; cases hd; exact r3
    · simp at hv
  subst he
  cases hr
  have hlt : ∀ x ∈ p0 ++ p1 ++ p2 ++ p3, x.block < W.heap.size := fun x hx => by simpa using hW'.lt x hx
  exact ⟨_, rfl, _, _, _, [], _, [], hW', trodAll_mk1 (shutBool true), trodAll_below laidOut hb (by kernel_rfl) hargs hlt, rfl, hb.frame _, fun h => by cases h⟩
theorem join_holds : Rows.EventsJoinSaid :=
  OpenClaim.holds_of_wide 5 Try.f5 rfl rfl rfl rfl rfl rfl rfl ⟨rfl, rfl, rfl, rfl, rfl⟩ rfl rfl rfl rfl rfl (by kernel_rfl) Try.func5 (by kernel_rfl)
    (of_decide_eq_true (by kernel_rfl)) (by unfold Func.isWrapper; first | (rw [if_pos (by decide +kernel)]; kernel_rfl) | (rw [if_neg (by decide +kernel)]; exact ⟨rfl, rfl⟩))
    (fun os started H en _ => join_lifted os started H en)
#print axioms join_holds
end Go.Proofs.Ytpbhcpeilgmkeaa
