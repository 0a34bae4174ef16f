/-
  DivisiJoinsUpto: whatever the input of bulk at most 1048576 (all values that come in, counted together), the call returns true and each argument reads as it did.
  The package variable naturals holds what the program's text lays (tied by the card).
-/
import Derived.Test.YtjfkfkjkbgiciaaDoorX8
set_option linter.all false
set_option linter.unnecessarySimpa false
set_option linter.deprecated false
set_option linter.unusedVariables false
set_option linter.unusedSimpArgs false
set_option linter.unusedSectionVars false
namespace Go.Proofs.YtjfkfkjkbgiciaaDoor
open Go Go.Eva Go.RowKit Go.ChangeShapes Go.WideShapes
set_option linter.unusedVariables false
theorem ran3 (l : List View) (w : IntK .u8) (hl : l.length ≤ 1048576) (hs : ∀ v ∈ l, Sm v) (hw : 0 ≤ w.n ∧ w.n ≤ 255) : PureCon Tryd.prog 3 [Enc.enc l, Enc.enc w] (.bool true) := by
  have he := lawJoins_eq hl hs hw
  have h := ok3.con [Enc.enc l, Enc.enc w] _ _ rfl (by simp only [Enc.dec_enc, he]; exact ⟨trivial, trivial, rfl⟩)
  simp only [Enc.dec_enc, he] at h
  exact h
set_option maxRecDepth 100000 in
theorem joins_contract (H : Type) (en : TypeId × Value → H) (W : World) (base : Nat) (args : Array Value) (ds gs : List (DataW H)) (before : List MemPlace)
    (hval0 : ∀ (j : Nat) t v, Tryd.f3.params[j]? = some t → args[j]? = some v → Value.okWide Tryd.prog W .any base t v)
    (hW : DataW.Whole en Tryd.prog Tryd.f3.params.toList Rows.divisiJoinsSpec.vars false W args.toList ds gs before) (hk : Rows.uptoSmall H (ds ++ gs) = true) (hL : laidMetH Tryd.prog Rows.divisiJoinsUptoRow.laid W) :
    Calls Tryd.prog 3 args W fun e W' => ∃ v, e = .returned v ∧ Rows.divisiJoinsSpec.post en Tryd.prog Tryd.f3 false true false false W args v W' := by
  have hval : ∀ (j : Nat) t v, Tryd.f3.params[j]? = some t → args[j]? = some v → Value.okWide Tryd.prog W .any base t v := hval0
  have hW' := hW
  obtain ⟨p, q, hA0, hV, rfl, _, _⟩ := hW
  have hA : DataW.TrodAll en Tryd.prog W 0 (fun _ => true) true Tryd.f3.params.toList args.toList ds p := hA0
  obtain ⟨rfl, rfl⟩ := trodVars_none hV
  have hargs := hA
  rw [Tryd.params3] at hA hval
  obtain ⟨v0, v1, d0, d1, p0, p1, rfl, rfl, rfl, h0, h1⟩ := trodAll_two hA
  simp only [List.append_nil] at hW' hk
  obtain ⟨l, h_l, r0⟩ := arg_one opens_22 (fun _ => rfl) (hval 0 22 v0 rfl rfl) (by kernel_rfl) h0
  have b_l := small_at hk (d := d0) (by simp)
  obtain ⟨w, h_w, r1⟩ := arg_one opens_5 (fun _ => rfl) (hval 1 5 v1 rfl rfl) (by kernel_rfl) h1
  have b_w := small_at hk (d := d1) (by simp)
  have hl : l.length ≤ 1048576 := goodL_len h_l b_l
  have hs : ∀ v ∈ l, Sm v := goodVs_sm h_l b_l
  have hw : 0 ≤ w.n ∧ w.n ≤ 255 := by simpa [Lit.wf, IntKind.has, IntKind.min, IntKind.max, IntKind.signed, IntKind.bits] using h_w
  refine (run_of (ran3 l w hl hs hw) (glob hL) rfl (fun i v d hv hd => ?_)).mono fun e W' ⟨v, J, he, hb, hr⟩ => ?_
  · rcases i with _ | _ | i
    · cases hv; cases hd; exact r0
    · cases hv; cases hd; exact r1
    · simp at hv
  subst he
  cases hr
  have hlt : ∀ x ∈ p0 ++ p1, x.block < W.heap.size := fun x hx => by simpa using hW'.lt x (by simpa using hx)
  exact ⟨_, rfl, _, _, _, [], _, [], hW', trodAll_mk1 (shutBool true), trodAll_below laidOut hb (by kernel_rfl) hargs hlt, rfl, hb.frame _, fun h => by cases h⟩
noncomputable def joins_world (os : Os) : World :=
  { World.holding Tryd.prog os ⟨#[], #[], []⟩ with heap := (World.holding Tryd.prog os ⟨#[], #[], []⟩).heap.modify 0 fun
      | .cells _ t frozen => .cells #[.int .i64 0, .int .i64 2, .int .i64 4, .int .i64 5, .int .i64 7, .int .i64 9, .int .i64 11] t frozen
      | o => o }
theorem joins_met (os : Os) : laidMet Tryd.prog Rows.divisiJoinsUptoRow.laid ((joins_world os).forCall (fun _ _ => 0) ⟨#[], #[.slice none 0 0, .int .u8 0], []⟩).memory :=
  laidMet_of_run' 8 (by kernel_rfl) (by kernel_rfl)
theorem joins_reads (os : Os) {H : Type} (en : TypeId × Value → H) : ∃ places, DataW.whole en Tryd.prog ((joins_world os).forCall (fun _ _ => 0) ⟨#[], #[.slice none 0 0, .int .u8 0], []⟩).memory Tryd.f3.params.toList Rows.divisiJoinsSpec.vars false (#[.slice none 0 0, .int .u8 0] : Array Value).toList 8 = some ([.nil, .lit (.int .u8 0)], [], places) :=
  ⟨[], by kernel_rfl⟩
set_option maxRecDepth 100000 in
theorem joins_lifted (os : Os) (started : os.Started) (H : Type) (en : TypeId × Value → H) (F : Stop.Interp) :
    ReturnsInHanded {} Tryd.checked os 3 .any ((Rows.OpenSpec.upto Rows.divisiJoinsSpec).preRow en Tryd.prog Tryd.f3 Rows.divisiJoinsUptoRow.domain false Rows.divisiJoinsUptoRow.laid) (((Rows.OpenSpec.upto Rows.divisiJoinsSpec).at F).post en Tryd.prog Tryd.f3 false true false false) := by
  obtain ⟨places, hx⟩ := joins_reads os en
  refine returnsInHanded_of_row (C := Tryd.checked) (s := Rows.OpenSpec.upto Rows.divisiJoinsSpec) own started (by kernel_rfl) Tryd.func3
    (witness_row_at (enc := en) (C := Tryd.checked) false (joins_world os) #[.slice none 0 0, .int .u8 0] rfl (by kernel_rfl) (by kernel_rfl) (by kernel_rfl)
      (OpenSpec.preRow_of_cond 8 hx (by kernel_rfl) (fun k hk => by cases hk; kernel_rfl) (by kernel_rfl) (joins_met os))) ?_
  intro W base args ds gs before hval hW _ hcond _ hL _ _
  exact joins_contract H en W base args ds gs before hval hW (hcond _ rfl) hL
theorem joins_said : Rows.DivisiJoinsUptoSaid :=
  OpenClaim.holds_of_cond 3 Tryd.f3 rfl rfl rfl rfl rfl rfl rfl ⟨rfl, rfl, rfl, rfl, rfl⟩ rfl rfl rfl rfl rfl (by kernel_rfl) Tryd.func3 (by kernel_rfl)
    (of_decide_eq_true (by kernel_rfl)) (by unfold Func.isWrapper; first | (rw [if_pos (by decide +kernel)]; kernel_rfl) | (rw [if_neg (by decide +kernel)]; exact ⟨rfl, rfl⟩))
    (fun os started H en _ F => by rw [OpenClaim.pre_eq_preRow]; exact joins_lifted os started H en F)
theorem joins_plain (f : FuncId) (fn : Func) (hf : Tryd.pinned.checked.prog.funcNamed "partbook/partbooklaw18.DivisiJoins" = some f) (hfn : Tryd.pinned.checked.prog.funcs[f]? = some fn) :
    false = Tryd.pinned.checked.prog.looks [] ∧ ∀ (j : Nat) t, fn.params[j]? = some t → Tryd.pinned.checked.prog.wantsStandIn t = false := by
  obtain rfl : f = 3 := Option.some.inj ((show Tryd.prog.funcNamed "partbook/partbooklaw18.DivisiJoins" = some 3 by kernel_rfl).symm.trans hf) |>.symm
  obtain rfl : fn = Tryd.f3 := (Option.some.inj (Tryd.func3.symm.trans hfn)).symm
  refine ⟨by kernel_rfl, fun j t ht => ?_⟩
  rw [Tryd.params3] at ht
  have h : ∀ t ∈ [22, 5], Tryd.prog.wantsStandIn t = false := by
    intro t ht
    simp only [List.mem_cons, List.not_mem_nil, or_false] at ht
    rcases ht with rfl | rfl <;> kernel_rfl
  exact h t (by simpa using Array.mem_of_getElem? ht)
theorem joins_holds : Rows.DivisiJoinsUptoCardSaid :=
  Claim7.holds_tied_plain_at .later [] _ _ _ _ joins_said (fun _ h => by cases h) (by kernel_rfl) (fun _ h => by cases h) divisiJoinsUpto_row_tie rfl ⟨rfl, rfl⟩ (by kernel_rfl) rfl joins_plain (by kernel_rfl)
#print axioms joins_holds
end Go.Proofs.YtjfkfkjkbgiciaaDoor
