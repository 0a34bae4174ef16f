/-
  EventsErase: whatever the input, the call returns true and each argument reads as it did.
  No conditions.
-/
import Derived.Test.YtpbhcpeilgmkeaaX12
set_option linter.all false
set_option linter.unnecessarySimpa false
set_option linter.deprecated false
set_option linter.unusedVariables false
set_option linter.unusedSimpArgs false
set_option linter.unusedSectionVars false
namespace Go.Proofs.Ytpbhcpeilgmkeaa
open Go Go.Eva Go.RowKit Go.ChangeShapes Go.WideShapes
theorem ran7 (l : List Event) (id : Int) (m : Mark) (stand : Int) : PureCon Try.prog 7 [Enc.enc l, Enc.enc id, Enc.enc m, Enc.enc stand] (.bool true) := by
  have h := ok7.con [Enc.enc l, Enc.enc id, Enc.enc m, Enc.enc stand] _ _ rfl (by simp only [Enc.dec_enc, erase_eq l id m stand]; exact ⟨trivial, trivial, trivial, trivial, rfl⟩)
  simp only [Enc.dec_enc, erase_eq l id m stand] at h
  exact h
set_option maxRecDepth 100000 in
theorem erase_lifted (os : Os) (started : os.Started) (H : Type) (en : TypeId × Value → H) :
    ReturnsInHanded {} Try.checked os 7 .any (Rows.eventsEraseSpec.pre6 en Try.prog Try.f7 Rows.eventsEraseRow.domain false) (Rows.eventsEraseSpec.post en Try.prog Try.f7 false true false false) := by
  refine returnsInHanded_of_change (C := Try.checked) own started (by kernel_rfl) Try.func7
    (ChangeSpec.witness6 (enc := en) (C := Try.checked) false ⟨#[], #[.slice none 0 0, .int .i64 0, .agg #[.int .i64 0, .int .i64 0, .int .i64 0, .int .i64 0, .int .i64 0, .int .i64 0, .int .i64 0, .int .i64 0, .int .i64 0, .string ⟨#[]⟩], .int .i64 0], []⟩ 8 (by kernel_rfl) (by kernel_rfl) (by kernel_rfl) (by kernel_rfl)) ?_
  intro W base args ds gs before hval0 hW _ _
  have hval : ∀ (j : Nat) t v, Try.f7.params[j]? = some t → args[j]? = some v → Value.okWide Try.prog W .any base t v := hval0
  have hW' := hW
  obtain ⟨p, q, hA0, hV, rfl, _, _⟩ := hW
  have hA : DataW.TrodAll en Try.prog W 0 (fun _ => true) true Try.f7.params.toList args.toList ds p := hA0
  obtain ⟨rfl, rfl⟩ := trodVars_none hV
  have hargs := hA
  rw [Try.params7] at hA hval
  obtain ⟨v0, v1, v2, v3, d0, d1, d2, d3, p0, p1, p2, p3, rfl, rfl, rfl, h0, h1, h2, h3⟩ := trodAll_four hA
  simp only [List.append_nil] at hW'
  obtain ⟨l, h_l, r0⟩ := arg_one opens_22 (fun _ => rfl) (hval 0 22 v0 rfl rfl) (by kernel_rfl) h0
  obtain ⟨id, h_id, r1⟩ := arg_one opens_3 (fun _ => rfl) (hval 1 3 v1 rfl rfl) (by kernel_rfl) h1
  obtain ⟨m, h_m, r2⟩ := arg_agg opens_40 (fun _ => rfl) Try.underlying40 (hval 2 40 v2 rfl rfl) h2
  obtain ⟨stand, h_stand, r3⟩ := arg_one opens_3 (fun _ => rfl) (hval 3 3 v3 rfl rfl) (by kernel_rfl) h3
  refine (run_of (ran7 l id m stand) rfl (fun i v d hv hd => ?_)).mono fun e W' ⟨v, J, he, hb, hr⟩ => ?_
  · rcases i with _ | _ | _ | _ | i
    · cases hv; cases hd; exact r0
    · cases hv; cases hd; exact r1
    · cases hv; cases hd; exact r2
    · cases hv; cases hd; exact r3
    · simp at hv
  subst he
  cases hr
  have hlt : ∀ x ∈ p0 ++ p1 ++ p2 ++ p3, x.block < W.heap.size := fun x hx => by simpa using hW'.lt x (by simpa using hx)
  exact ⟨_, rfl, _, _, _, [], _, [], hW', trodAll_mk1 (shutBool true), trodAll_below laidOut hb (by kernel_rfl) hargs hlt, rfl, hb.frame _, fun h => by cases h⟩
theorem erase_holds : Rows.EventsEraseSaid :=
  OpenClaim.holds_of_wide 7 Try.f7 rfl rfl rfl rfl rfl rfl rfl ⟨rfl, rfl, rfl, rfl, rfl⟩ rfl rfl rfl rfl rfl (by kernel_rfl) Try.func7 (by kernel_rfl)
    (of_decide_eq_true (by kernel_rfl)) (by unfold Func.isWrapper; first | (rw [if_pos (by decide +kernel)]; kernel_rfl) | (rw [if_neg (by decide +kernel)]; exact ⟨rfl, rfl⟩))
    (fun os started H en _ => erase_lifted os started H en)
#print axioms erase_holds
end Go.Proofs.Ytpbhcpeilgmkeaa
