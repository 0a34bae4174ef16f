/-
  DivisiDesksUpto: whatever the input of bulk at most 1048576 (all values that come in, counted together), the call returns true and each argument reads as it did.
  The package variable naturals holds what the program's text lays (tied by the card).
-/
import Derived.Test.YtjfkfkjkbgiciaaGreatDoorZH4P1
set_option linter.all false
set_option linter.unnecessarySimpa false
set_option linter.deprecated false
set_option linter.unusedVariables false
set_option linter.unusedSimpArgs false
set_option linter.unusedSectionVars false
namespace Go.Proofs.YtjfkfkjkbgiciaaGreatDoor
open Go Go.Eva Go.RowKit Go.ChangeShapes Go.WideShapes
set_option linter.unusedVariables false
theorem ran4 (v : View) (d : IntK .u8) (hv : Sm v) (hd : 0 ≤ d.n ∧ d.n ≤ 255) : PureCon Tryz.prog 4 [Enc.enc v, Enc.enc d] (.bool true) := by
  have he := lawDesks_eq hv hd.1 hd.2
  have h := ok4.con [Enc.enc v, Enc.enc d] _ _ rfl (by simp only [Enc.dec_enc, he]; exact ⟨trivial, trivial, rfl⟩)
  simp only [Enc.dec_enc, he] at h
  exact h
set_option maxRecDepth 100000 in
theorem desks_contract (H : Type) (en : TypeId × Value → H) (W : World) (base : Nat) (args : Array Value) (ds gs : List (DataW H)) (before : List MemPlace)
    (hval0 : ∀ (j : Nat) t v, Tryz.f4.params[j]? = some t → args[j]? = some v → Value.okWide Tryz.prog W .any base t v)
    (hW : DataW.Whole en Tryz.prog Tryz.f4.params.toList Rows.divisiDesksSpec.vars false W args.toList ds gs before) (hk : Rows.uptoSmall H (ds ++ gs) = true) (hL : laidMetH Tryz.prog Rows.divisiDesksUptoRow.laid W) :
    Calls Tryz.prog 4 args W fun e W' => ∃ v, e = .returned v ∧ Rows.divisiDesksSpec.post en Tryz.prog Tryz.f4 false true false false W args v W' := by
  have hval : ∀ (j : Nat) t v, Tryz.f4.params[j]? = some t → args[j]? = some v → Value.okWide Tryz.prog W .any base t v := hval0
  have hW' := hW
  obtain ⟨p, q, hA0, hV, rfl, _, _⟩ := hW
  have hA : DataW.TrodAll en Tryz.prog W 0 (fun _ => true) true Tryz.f4.params.toList args.toList ds p := hA0
  obtain ⟨rfl, rfl⟩ := trodVars_none hV
  have hargs := hA
  rw [Tryz.params4] at hA hval
  obtain ⟨v0, v1, d0, d1, p0, p1, rfl, rfl, rfl, h0, h1⟩ := trodAll_two hA
  simp only [List.append_nil] at hW' hk
  obtain ⟨v, h_v, r0⟩ := arg_agg opens_24 (fun _ => rfl) Tryz.underlying24 (hval 0 24 v0 rfl rfl) h0
  have b_v := small_at hk (d := d0) (by simp)
  obtain ⟨d, h_d, r1⟩ := arg_one opens_5 (fun _ => rfl) (hval 1 5 v1 rfl rfl) (by kernel_rfl) h1
  have b_d := small_at hk (d := d1) (by simp)
  have hv : Sm v := goodV_sm h_v b_v
  have hd : 0 ≤ d.n ∧ d.n ≤ 255 := by simpa [Lit.wf, IntKind.has, IntKind.min, IntKind.max, IntKind.signed, IntKind.bits] using h_d
  refine (run_of (ran4 v d hv hd) (glob hL) rfl (fun i v d hv hd => ?_)).mono fun e W' ⟨v, J, he, hb, hr⟩ => ?_
  · rcases i with _ | _ | i
    · cases hv; cases hd; exact r0
    · cases hv; cases hd; exact r1
    · simp at hv
  subst he
  cases hr
  have hlt : ∀ x ∈ p0 ++ p1, x.block < W.heap.size := fun x hx => by simpa using hW'.lt x (by simpa using hx)
  exact ⟨_, rfl, _, _, _, [], _, [], hW', trodAll_mk1 (shutBool true), trodAll_below laidOut hb (by kernel_rfl) hargs hlt, rfl, hb.frame _, fun h => by cases h⟩
noncomputable def desks_world (os : Os) : World :=
  { World.holding Tryz.prog os ⟨#[], #[], []⟩ with heap := (World.holding Tryz.prog os ⟨#[], #[], []⟩).heap.modify 0 fun
      | .cells _ t frozen => .cells #[.int .i64 0, .int .i64 2, .int .i64 4, .int .i64 5, .int .i64 7, .int .i64 9, .int .i64 11] t frozen
      | o => o }
theorem desks_met (os : Os) : laidMet Tryz.prog Rows.divisiDesksUptoRow.laid ((desks_world os).forCall (fun _ _ => 0) ⟨#[], #[.agg #[.int .i64 0, .slice none 0 0], .int .u8 0], []⟩).memory :=
  laidMet_of_run' 8 (by kernel_rfl) (by kernel_rfl)
theorem desks_reads (os : Os) {H : Type} (en : TypeId × Value → H) : ∃ places, DataW.whole en Tryz.prog ((desks_world os).forCall (fun _ _ => 0) ⟨#[], #[.agg #[.int .i64 0, .slice none 0 0], .int .u8 0], []⟩).memory Tryz.f4.params.toList Rows.divisiDesksSpec.vars false (#[.agg #[.int .i64 0, .slice none 0 0], .int .u8 0] : Array Value).toList 8 = some ([.agg [.lit (.int .i64 0), .nil], .lit (.int .u8 0)], [], places) :=
  ⟨[], by kernel_rfl⟩
set_option maxRecDepth 100000 in
theorem desks_lifted (os : Os) (started : os.Started) (H : Type) (en : TypeId × Value → H) (F : Stop.Interp) :
    ReturnsInHanded {} Tryz.checked os 4 .any ((Rows.OpenSpec.upto Rows.divisiDesksSpec).preRow en Tryz.prog Tryz.f4 Rows.divisiDesksUptoRow.domain false Rows.divisiDesksUptoRow.laid) (((Rows.OpenSpec.upto Rows.divisiDesksSpec).at F).post en Tryz.prog Tryz.f4 false true false false) := by
  obtain ⟨places, hx⟩ := desks_reads os en
  refine returnsInHanded_of_row (C := Tryz.checked) (s := Rows.OpenSpec.upto Rows.divisiDesksSpec) own started (by kernel_rfl) Tryz.func4
    (witness_row_at (enc := en) (C := Tryz.checked) false (desks_world os) #[.agg #[.int .i64 0, .slice none 0 0], .int .u8 0] rfl (by kernel_rfl) (by kernel_rfl) (by kernel_rfl)
      (OpenSpec.preRow_of_cond 8 hx (by kernel_rfl) (fun k hk => by cases hk; kernel_rfl) (by kernel_rfl) (desks_met os))) ?_
  intro W base args ds gs before hval hW _ hcond _ hL _ _
  exact desks_contract H en W base args ds gs before hval hW (hcond _ rfl) hL
theorem desks_said : Rows.DivisiDesksUptoSaid :=
  OpenClaim.holds_of_cond 4 Tryz.f4 rfl rfl rfl rfl rfl rfl rfl ⟨rfl, rfl, rfl, rfl, rfl⟩ rfl rfl rfl rfl rfl (by kernel_rfl) Tryz.func4 (by kernel_rfl)
    (of_decide_eq_true (by kernel_rfl)) (by unfold Func.isWrapper; first | (rw [if_pos (by decide +kernel)]; kernel_rfl) | (rw [if_neg (by decide +kernel)]; exact ⟨rfl, rfl⟩))
    (fun os started H en _ F => by rw [OpenClaim.pre_eq_preRow]; exact desks_lifted os started H en F)
theorem desks_plain (f : FuncId) (fn : Func) (hf : Tryz.pinned.checked.prog.funcNamed "partbook/partbooklaw18.DivisiDesks" = some f) (hfn : Tryz.pinned.checked.prog.funcs[f]? = some fn) :
    false = Tryz.pinned.checked.prog.looks [] ∧ ∀ (j : Nat) t, fn.params[j]? = some t → Tryz.pinned.checked.prog.wantsStandIn t = false := by
  obtain rfl : f = 4 := Option.some.inj ((show Tryz.prog.funcNamed "partbook/partbooklaw18.DivisiDesks" = some 4 by kernel_rfl).symm.trans hf) |>.symm
  obtain rfl : fn = Tryz.f4 := (Option.some.inj (Tryz.func4.symm.trans hfn)).symm
  refine ⟨by kernel_rfl, fun j t ht => ?_⟩
  rw [Tryz.params4] at ht
  have h : ∀ t ∈ [24, 5], Tryz.prog.wantsStandIn t = false := by
    intro t ht
    simp only [List.mem_cons, List.not_mem_nil, or_false] at ht
    rcases ht with rfl | rfl <;> kernel_rfl
  exact h t (by simpa using Array.mem_of_getElem? ht)
theorem desks_holds : Rows.DivisiDesksUptoCardSaid :=
  Claim7.holds_tied_plain_at .later [] _ _ _ _ desks_said (fun _ h => by cases h) (by kernel_rfl) (fun _ h => by cases h) divisiDesksUpto_row_tie rfl ⟨rfl, rfl⟩ (by kernel_rfl) rfl desks_plain (by kernel_rfl)
#print axioms desks_holds
end Go.Proofs.YtjfkfkjkbgiciaaGreatDoor
