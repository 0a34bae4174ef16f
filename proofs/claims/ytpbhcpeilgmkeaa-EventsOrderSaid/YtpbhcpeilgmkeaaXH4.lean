/-
  EventsOrder: whatever the input, the call returns true and each argument reads as it did.
  No conditions.
-/
import Derived.Test.YtpbhcpeilgmkeaaX12
set_option linter.all false
set_option linter.unnecessarySimpa false
set_option linter.deprecated false
set_option linter.unusedVariables false
set_option linter.unusedSimpArgs false
set_option linter.unusedSectionVars false
namespace Go.Proofs.Ytpbhcpeilgmkeaa
open Go Go.Eva Go.RowKit Go.ChangeShapes Go.WideShapes
theorem opens_36 : Opens Try.prog 36 (List (IntK .u8)) fun l => l.length ≤ maxLen ∧ ∀ a ∈ l, (Lit.int .u8 a.n).wf = true := opens_slice Try.underlying36 (by kernel_rfl) (by rw [show Try.prog.cellsOf 5 = 1 by kernel_rfl]; omega) opens_5
theorem byte_of {n : Int} (h : (Lit.int .u8 n).wf = true) : 0 ≤ n ∧ n ≤ 255 := by simpa [Lit.wf, IntKind.has, IntKind.min, IntKind.max, IntKind.signed, IntKind.bits] using h
theorem ran4 (l : List Event) (swaps : List (IntK .u8)) (split : IntK .u8) (hs : ∀ x ∈ swaps, 0 ≤ x.n ∧ x.n ≤ 255) (h0 : 0 ≤ split.n) (h1 : split.n ≤ 255) : PureCon Try.prog 4 [Enc.enc l, Enc.enc swaps, Enc.enc split] (.bool true) := by
  have h := ok4.con [Enc.enc l, Enc.enc swaps, Enc.enc split] _ _ rfl (by simp only [Enc.dec_enc, order_eq l swaps split hs h0 h1]; exact ⟨trivial, trivial, trivial, rfl⟩)
  simp only [Enc.dec_enc, order_eq l swaps split hs h0 h1] at h
  exact h
set_option maxRecDepth 100000 in
theorem order_lifted (os : Os) (started : os.Started) (H : Type) (en : TypeId × Value → H) :
    ReturnsInHanded {} Try.checked os 4 .any (Rows.eventsOrderSpec.pre6 en Try.prog Try.f4 Rows.eventsOrderRow.domain false) (Rows.eventsOrderSpec.post en Try.prog Try.f4 false true false false) := by
  refine returnsInHanded_of_change (C := Try.checked) own started (by kernel_rfl) Try.func4
    (ChangeSpec.witness6 (enc := en) (C := Try.checked) false ⟨#[], #[.slice none 0 0, .slice none 0 0, .int .u8 0], []⟩ 8 (by kernel_rfl) (by kernel_rfl) (by kernel_rfl) (by kernel_rfl)) ?_
  intro W base args ds gs before hval0 hW _ _
  have hval : ∀ (j : Nat) t v, Try.f4.params[j]? = some t → args[j]? = some v → Value.okWide Try.prog W .any base t v := hval0
  have hW' := hW
  obtain ⟨p, q, hA0, hV, rfl, _, _⟩ := hW
  have hA : DataW.TrodAll en Try.prog W 0 (fun _ => true) true Try.f4.params.toList args.toList ds p := hA0
  obtain ⟨rfl, rfl⟩ := trodVars_none hV
  have hargs := hA
  rw [Try.params4] at hA hval
  obtain ⟨v0, v1, v2, d0, d1, d2, p0, p1, p2, rfl, rfl, rfl, h0, h1, h2⟩ := trodAll_three hA
  simp only [List.append_nil] at hW'
  obtain ⟨l, _, r0⟩ := arg_one opens_22 (fun _ => rfl) (hval 0 22 v0 rfl rfl) (by kernel_rfl) h0
  obtain ⟨swaps, hsw, r1⟩ := arg_one opens_36 (fun _ => rfl) (hval 1 36 v1 rfl rfl) (by kernel_rfl) h1
  obtain ⟨split, hsp, r2⟩ := arg_one opens_5 (fun _ => rfl) (hval 2 5 v2 rfl rfl) (by kernel_rfl) h2
  refine (run_of (ran4 l swaps split (fun x hx => byte_of (hsw.2 x hx)) (byte_of hsp).1 (byte_of hsp).2) rfl (fun i v d hv hd => ?_)).mono fun e W' ⟨v, J, he, hb, hr⟩ => ?_
  · rcases i with _ | _ | _ | i
    · cases hv; cases hd; exact r0
    · cases hv; cases hd; exact r1
    · cases hv; cases hd; exact r2
    · simp at hv
  subst he
  cases hr
  have hlt : ∀ x ∈ p0 ++ p1 ++ p2, x.block < W.heap.size := fun x hx => by simpa using hW'.lt x hx
  exact ⟨_, rfl, _, _, _, [], _, [], hW', trodAll_mk1 (shutBool true), trodAll_below laidOut hb (by kernel_rfl) hargs hlt, rfl, hb.frame _, fun h => by cases h⟩
theorem order_holds : Rows.EventsOrderSaid :=
  OpenClaim.holds_of_wide 4 Try.f4 rfl rfl rfl rfl rfl rfl rfl ⟨rfl, rfl, rfl, rfl, rfl⟩ rfl rfl rfl rfl rfl (by kernel_rfl) Try.func4 (by kernel_rfl)
    (of_decide_eq_true (by kernel_rfl)) (by unfold Func.isWrapper; first | (rw [if_pos (by decide +kernel)]; kernel_rfl) | (rw [if_neg (by decide +kernel)]; exact ⟨rfl, rfl⟩))
    (fun os started H en _ => order_lifted os started H en)
#print axioms order_holds
end Go.Proofs.Ytpbhcpeilgmkeaa
