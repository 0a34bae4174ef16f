/-
  DivisiOssiasUpto: whatever the input of bulk at most 1048576 (all values that come in, counted together), the call returns true and each argument reads as it did.
  The package variable naturals holds what the program's text lays (tied by the card).
-/
import Derived.Test.YtjfkfkjkbgiciaaGreatDoorZH6P1
set_option linter.all false
set_option linter.unnecessarySimpa false
set_option linter.deprecated false
set_option linter.unusedVariables false
set_option linter.unusedSimpArgs false
set_option linter.unusedSectionVars false
namespace Go.Proofs.YtjfkfkjkbgiciaaGreatDoor
open Go Go.Eva Go.RowKit Go.ChangeShapes Go.WideShapes
set_option linter.unusedVariables false
theorem ran6 (v : View) (chosen : List Int) (hv : Sm v) (hc : chosen.length ≤ 1048576) : PureCon Tryz.prog 6 [Enc.enc v, Enc.enc chosen] (.bool true) := by
  have he := lawOssias_eq hv hc
  have h := ok6.con [Enc.enc v, Enc.enc chosen] _ _ rfl (by simp only [Enc.dec_enc, he]; exact ⟨trivial, trivial, rfl⟩)
  simp only [Enc.dec_enc, he] at h
  exact h
set_option maxRecDepth 100000 in
theorem ossias_contract (H : Type) (en : TypeId × Value → H) (W : World) (base : Nat) (args : Array Value) (ds gs : List (DataW H)) (before : List MemPlace)
    (hval0 : ∀ (j : Nat) t v, Tryz.f6.params[j]? = some t → args[j]? = some v → Value.okWide Tryz.prog W .any base t v)
    (hW : DataW.Whole en Tryz.prog Tryz.f6.params.toList Rows.divisiOssiasSpec.vars false W args.toList ds gs before) (hk : Rows.uptoSmall H (ds ++ gs) = true) (hL : laidMetH Tryz.prog Rows.divisiOssiasUptoRow.laid W) :
    Calls Tryz.prog 6 args W fun e W' => ∃ v, e = .returned v ∧ Rows.divisiOssiasSpec.post en Tryz.prog Tryz.f6 false true false false W args v W' := by
  have hval : ∀ (j : Nat) t v, Tryz.f6.params[j]? = some t → args[j]? = some v → Value.okWide Tryz.prog W .any base t v := hval0
  have hW' := hW
  obtain ⟨p, q, hA0, hV, rfl, _, _⟩ := hW
  have hA : DataW.TrodAll en Tryz.prog W 0 (fun _ => true) true Tryz.f6.params.toList args.toList ds p := hA0
  obtain ⟨rfl, rfl⟩ := trodVars_none hV
  have hargs := hA
  rw [Tryz.params6] at hA hval
  obtain ⟨v0, v1, d0, d1, p0, p1, rfl, rfl, rfl, h0, h1⟩ := trodAll_two hA
  simp only [List.append_nil] at hW' hk
  obtain ⟨v, h_v, r0⟩ := arg_agg opens_24 (fun _ => rfl) Tryz.underlying24 (hval 0 24 v0 rfl rfl) h0
  have b_v := small_at hk (d := d0) (by simp)
  obtain ⟨chosen, h_chosen, r1⟩ := arg_one opens_26 (fun _ => rfl) (hval 1 26 v1 rfl rfl) (by kernel_rfl) h1
  have b_chosen := small_at hk (d := d1) (by simp)
  have hv : Sm v := goodV_sm h_v b_v
  have hc : chosen.length ≤ 1048576 := goodL_len h_chosen b_chosen
  refine (run_of (ran6 v chosen hv hc) (glob hL) rfl (fun i v d hv hd => ?_)).mono fun e W' ⟨v, J, he, hb, hr⟩ => ?_
  · rcases i with _ | _ | i
    · cases hv; cases hd; exact r0
    · cases hv; cases hd; exact r1
    · simp at hv
  subst he
  cases hr
  have hlt : ∀ x ∈ p0 ++ p1, x.block < W.heap.size := fun x hx => by simpa using hW'.lt x (by simpa using hx)
  exact ⟨_, rfl, _, _, _, [], _, [], hW', trodAll_mk1 (shutBool true), trodAll_below laidOut hb (by kernel_rfl) hargs hlt, rfl, hb.frame _, fun h => by cases h⟩
noncomputable def ossias_world (os : Os) : World :=
  { World.holding Tryz.prog os ⟨#[], #[], []⟩ with heap := (World.holding Tryz.prog os ⟨#[], #[], []⟩).heap.modify 0 fun
      | .cells _ t frozen => .cells #[.int .i64 0, .int .i64 2, .int .i64 4, .int .i64 5, .int .i64 7, .int .i64 9, .int .i64 11] t frozen
      | o => o }
theorem ossias_met (os : Os) : laidMet Tryz.prog Rows.divisiOssiasUptoRow.laid ((ossias_world os).forCall (fun _ _ => 0) ⟨#[], #[.agg #[.int .i64 0, .slice none 0 0], .slice none 0 0], []⟩).memory :=
  laidMet_of_run' 8 (by kernel_rfl) (by kernel_rfl)
theorem ossias_reads (os : Os) {H : Type} (en : TypeId × Value → H) : ∃ places, DataW.whole en Tryz.prog ((ossias_world os).forCall (fun _ _ => 0) ⟨#[], #[.agg #[.int .i64 0, .slice none 0 0], .slice none 0 0], []⟩).memory Tryz.f6.params.toList Rows.divisiOssiasSpec.vars false (#[.agg #[.int .i64 0, .slice none 0 0], .slice none 0 0] : Array Value).toList 8 = some ([.agg [.lit (.int .i64 0), .nil], .nil], [], places) :=
  ⟨[], by kernel_rfl⟩
set_option maxRecDepth 100000 in
theorem ossias_lifted (os : Os) (started : os.Started) (H : Type) (en : TypeId × Value → H) (F : Stop.Interp) :
    ReturnsInHanded {} Tryz.checked os 6 .any ((Rows.OpenSpec.upto Rows.divisiOssiasSpec).preRow en Tryz.prog Tryz.f6 Rows.divisiOssiasUptoRow.domain false Rows.divisiOssiasUptoRow.laid) (((Rows.OpenSpec.upto Rows.divisiOssiasSpec).at F).post en Tryz.prog Tryz.f6 false true false false) := by
  obtain ⟨places, hx⟩ := ossias_reads os en
  refine returnsInHanded_of_row (C := Tryz.checked) (s := Rows.OpenSpec.upto Rows.divisiOssiasSpec) own started (by kernel_rfl) Tryz.func6
    (witness_row_at (enc := en) (C := Tryz.checked) false (ossias_world os) #[.agg #[.int .i64 0, .slice none 0 0], .slice none 0 0] rfl (by kernel_rfl) (by kernel_rfl) (by kernel_rfl)
      (OpenSpec.preRow_of_cond 8 hx (by kernel_rfl) (fun k hk => by cases hk; kernel_rfl) (by kernel_rfl) (ossias_met os))) ?_
  intro W base args ds gs before hval hW _ hcond _ hL _ _
  exact ossias_contract H en W base args ds gs before hval hW (hcond _ rfl) hL
theorem ossias_said : Rows.DivisiOssiasUptoSaid :=
  OpenClaim.holds_of_cond 6 Tryz.f6 rfl rfl rfl rfl rfl rfl rfl ⟨rfl, rfl, rfl, rfl, rfl⟩ rfl rfl rfl rfl rfl (by kernel_rfl) Tryz.func6 (by kernel_rfl)
    (of_decide_eq_true (by kernel_rfl)) (by unfold Func.isWrapper; first | (rw [if_pos (by decide +kernel)]; kernel_rfl) | (rw [if_neg (by decide +kernel)]; exact ⟨rfl, rfl⟩))
    (fun os started H en _ F => by rw [OpenClaim.pre_eq_preRow]; exact ossias_lifted os started H en F)
theorem ossias_plain (f : FuncId) (fn : Func) (hf : Tryz.pinned.checked.prog.funcNamed "partbook/partbooklaw18.DivisiOssias" = some f) (hfn : Tryz.pinned.checked.prog.funcs[f]? = some fn) :
    false = Tryz.pinned.checked.prog.looks [] ∧ ∀ (j : Nat) t, fn.params[j]? = some t → Tryz.pinned.checked.prog.wantsStandIn t = false := by
  obtain rfl : f = 6 := Option.some.inj ((show Tryz.prog.funcNamed "partbook/partbooklaw18.DivisiOssias" = some 6 by kernel_rfl).symm.trans hf) |>.symm
  obtain rfl : fn = Tryz.f6 := (Option.some.inj (Tryz.func6.symm.trans hfn)).symm
  refine ⟨by kernel_rfl, fun j t ht => ?_⟩
  rw [Tryz.params6] at ht
  have h : ∀ t ∈ [24, 26], Tryz.prog.wantsStandIn t = false := by
    intro t ht
    simp only [List.mem_cons, List.not_mem_nil, or_false] at ht
    rcases ht with rfl | rfl <;> kernel_rfl
  exact h t (by simpa using Array.mem_of_getElem? ht)
theorem ossias_holds : Rows.DivisiOssiasUptoCardSaid :=
  Claim7.holds_tied_plain_at .later [] _ _ _ _ ossias_said (fun _ h => by cases h) (by kernel_rfl) (fun _ h => by cases h) divisiOssiasUpto_row_tie rfl ⟨rfl, rfl⟩ (by kernel_rfl) rfl ossias_plain (by kernel_rfl)
#print axioms ossias_holds
end Go.Proofs.YtjfkfkjkbgiciaaGreatDoor
