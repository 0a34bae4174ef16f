/-
  DivisiMatchesReferenceUpto: whatever the input of bulk at most 1048576 (all values that come in, counted together), the call returns true and each argument reads as it did.
  The package variable naturals holds what the program's text lays (tied by the card).
-/
import Derived.Test.YtjfkfkjkbgiciaaGreatDoorZH3P1
set_option linter.all false
set_option linter.unnecessarySimpa false
set_option linter.deprecated false
set_option linter.unusedVariables false
set_option linter.unusedSimpArgs false
set_option linter.unusedSectionVars false
namespace Go.Proofs.YtjfkfkjkbgiciaaGreatDoor
open Go Go.Eva Go.RowKit Go.ChangeShapes Go.WideShapes
set_option linter.unusedVariables false
theorem ran3 (v : View) (l : List View) (n : Int) (chosen : List Int) (hv : Sm v) (hl : l.length ≤ 1048576) (hs : ∀ v ∈ l, Sm v) (hc : chosen.length ≤ 1048576) : PureCon Tryz.prog 3 [Enc.enc v, Enc.enc l, Enc.enc n, Enc.enc chosen] (.bool true) := by
  have he := lawMatches_eq (n := n) hv hl hs hc
  have h := ok3.con [Enc.enc v, Enc.enc l, Enc.enc n, Enc.enc chosen] _ _ rfl (by simp only [Enc.dec_enc, he]; exact ⟨trivial, trivial, trivial, trivial, rfl⟩)
  simp only [Enc.dec_enc, he] at h
  exact h
set_option maxRecDepth 100000 in
theorem matches_contract (H : Type) (en : TypeId × Value → H) (W : World) (base : Nat) (args : Array Value) (ds gs : List (DataW H)) (before : List MemPlace)
    (hval0 : ∀ (j : Nat) t v, Tryz.f3.params[j]? = some t → args[j]? = some v → Value.okWide Tryz.prog W .any base t v)
    (hW : DataW.Whole en Tryz.prog Tryz.f3.params.toList Rows.divisiMatchesReferenceSpec.vars false W args.toList ds gs before) (hk : Rows.uptoSmall H (ds ++ gs) = true) (hL : laidMetH Tryz.prog Rows.divisiMatchesReferenceUptoRow.laid W) :
    Calls Tryz.prog 3 args W fun e W' => ∃ v, e = .returned v ∧ Rows.divisiMatchesReferenceSpec.post en Tryz.prog Tryz.f3 false true false false W args v W' := by
  have hval : ∀ (j : Nat) t v, Tryz.f3.params[j]? = some t → args[j]? = some v → Value.okWide Tryz.prog W .any base t v := hval0
  have hW' := hW
  obtain ⟨p, q, hA0, hV, rfl, _, _⟩ := hW
  have hA : DataW.TrodAll en Tryz.prog W 0 (fun _ => true) true Tryz.f3.params.toList args.toList ds p := hA0
  obtain ⟨rfl, rfl⟩ := trodVars_none hV
  have hargs := hA
  rw [Tryz.params3] at hA hval
  obtain ⟨v0, v1, v2, v3, d0, d1, d2, d3, p0, p1, p2, p3, rfl, rfl, rfl, h0, h1, h2, h3⟩ := trodAll_four hA
  simp only [List.append_nil] at hW' hk
  obtain ⟨v, h_v, r0⟩ := arg_agg opens_24 (fun _ => rfl) Tryz.underlying24 (hval 0 24 v0 rfl rfl) h0
  have b_v := small_at hk (d := d0) (by simp)
  obtain ⟨l, h_l, r1⟩ := arg_one opens_25 (fun _ => rfl) (hval 1 25 v1 rfl rfl) (by kernel_rfl) h1
  have b_l := small_at hk (d := d1) (by simp)
  obtain ⟨n, h_n, r2⟩ := arg_one opens_3 (fun _ => rfl) (hval 2 3 v2 rfl rfl) (by kernel_rfl) h2
  have b_n := small_at hk (d := d2) (by simp)
  obtain ⟨chosen, h_chosen, r3⟩ := arg_one opens_26 (fun _ => rfl) (hval 3 26 v3 rfl rfl) (by kernel_rfl) h3
  have b_chosen := small_at hk (d := d3) (by simp)
  have hv : Sm v := goodV_sm h_v b_v
  have hl : l.length ≤ 1048576 := goodL_len h_l b_l
  have hs : ∀ v ∈ l, Sm v := goodVs_sm h_l b_l
  have hc : chosen.length ≤ 1048576 := goodL_len h_chosen b_chosen
  refine (run_of (ran3 v l n chosen hv hl hs hc) (glob hL) rfl (fun i v d hv hd => ?_)).mono fun e W' ⟨v, J, he, hb, hr⟩ => ?_
  · rcases i with _ | _ | _ | _ | i
    · cases hv; cases hd; exact r0
    · cases hv; cases hd; exact r1
    · cases hv; cases hd; exact r2
    · cases hv; cases hd; exact r3
    · simp at hv
  subst he
  cases hr
  have hlt : ∀ x ∈ p0 ++ p1 ++ p2 ++ p3, x.block < W.heap.size := fun x hx => by simpa using hW'.lt x (by simpa using hx)
  exact ⟨_, rfl, _, _, _, [], _, [], hW', trodAll_mk1 (shutBool true), trodAll_below laidOut hb (by kernel_rfl) hargs hlt, rfl, hb.frame _, fun h => by cases h⟩
noncomputable def matches_world (os : Os) : World :=
  { World.holding Tryz.prog os ⟨#[], #[], []⟩ with heap := (World.holding Tryz.prog os ⟨#[], #[], []⟩).heap.modify 0 fun
      | .cells _ t frozen => .cells #[.int .i64 0, .int .i64 2, .int .i64 4, .int .i64 5, .int .i64 7, .int .i64 9, .int .i64 11] t frozen
      | o => o }
theorem matches_met (os : Os) : laidMet Tryz.prog Rows.divisiMatchesReferenceUptoRow.laid ((matches_world os).forCall (fun _ _ => 0) ⟨#[], #[.agg #[.int .i64 0, .slice none 0 0], .slice none 0 0, .int .i64 0, .slice none 0 0], []⟩).memory :=
  laidMet_of_run' 8 (by kernel_rfl) (by kernel_rfl)
theorem matches_reads (os : Os) {H : Type} (en : TypeId × Value → H) : ∃ places, DataW.whole en Tryz.prog ((matches_world os).forCall (fun _ _ => 0) ⟨#[], #[.agg #[.int .i64 0, .slice none 0 0], .slice none 0 0, .int .i64 0, .slice none 0 0], []⟩).memory Tryz.f3.params.toList Rows.divisiMatchesReferenceSpec.vars false (#[.agg #[.int .i64 0, .slice none 0 0], .slice none 0 0, .int .i64 0, .slice none 0 0] : Array Value).toList 8 = some ([.agg [.lit (.int .i64 0), .nil], .nil, .lit (.int .i64 0), .nil], [], places) :=
  ⟨[], by kernel_rfl⟩
set_option maxRecDepth 100000 in
theorem matches_lifted (os : Os) (started : os.Started) (H : Type) (en : TypeId × Value → H) (F : Stop.Interp) :
    ReturnsInHanded {} Tryz.checked os 3 .any ((Rows.OpenSpec.upto Rows.divisiMatchesReferenceSpec).preRow en Tryz.prog Tryz.f3 Rows.divisiMatchesReferenceUptoRow.domain false Rows.divisiMatchesReferenceUptoRow.laid) (((Rows.OpenSpec.upto Rows.divisiMatchesReferenceSpec).at F).post en Tryz.prog Tryz.f3 false true false false) := by
  obtain ⟨places, hx⟩ := matches_reads os en
  refine returnsInHanded_of_row (C := Tryz.checked) (s := Rows.OpenSpec.upto Rows.divisiMatchesReferenceSpec) own started (by kernel_rfl) Tryz.func3
    (witness_row_at (enc := en) (C := Tryz.checked) false (matches_world os) #[.agg #[.int .i64 0, .slice none 0 0], .slice none 0 0, .int .i64 0, .slice none 0 0] rfl (by kernel_rfl) (by kernel_rfl) (by kernel_rfl)
      (OpenSpec.preRow_of_cond 8 hx (by kernel_rfl) (fun k hk => by cases hk; kernel_rfl) (by kernel_rfl) (matches_met os))) ?_
  intro W base args ds gs before hval hW _ hcond _ hL _ _
  exact matches_contract H en W base args ds gs before hval hW (hcond _ rfl) hL
theorem matches_said : Rows.DivisiMatchesReferenceUptoSaid :=
  OpenClaim.holds_of_cond 3 Tryz.f3 rfl rfl rfl rfl rfl rfl rfl ⟨rfl, rfl, rfl, rfl, rfl⟩ rfl rfl rfl rfl rfl (by kernel_rfl) Tryz.func3 (by kernel_rfl)
    (of_decide_eq_true (by kernel_rfl)) (by unfold Func.isWrapper; first | (rw [if_pos (by decide +kernel)]; kernel_rfl) | (rw [if_neg (by decide +kernel)]; exact ⟨rfl, rfl⟩))
    (fun os started H en _ F => by rw [OpenClaim.pre_eq_preRow]; exact matches_lifted os started H en F)
theorem matches_plain (f : FuncId) (fn : Func) (hf : Tryz.pinned.checked.prog.funcNamed "partbook/partbooklaw18.DivisiMatchesReference" = some f) (hfn : Tryz.pinned.checked.prog.funcs[f]? = some fn) :
    false = Tryz.pinned.checked.prog.looks [] ∧ ∀ (j : Nat) t, fn.params[j]? = some t → Tryz.pinned.checked.prog.wantsStandIn t = false := by
  obtain rfl : f = 3 := Option.some.inj ((show Tryz.prog.funcNamed "partbook/partbooklaw18.DivisiMatchesReference" = some 3 by kernel_rfl).symm.trans hf) |>.symm
  obtain rfl : fn = Tryz.f3 := (Option.some.inj (Tryz.func3.symm.trans hfn)).symm
  refine ⟨by kernel_rfl, fun j t ht => ?_⟩
  rw [Tryz.params3] at ht
  have h : ∀ t ∈ [24, 25, 3, 26], Tryz.prog.wantsStandIn t = false := by
    intro t ht
    simp only [List.mem_cons, List.not_mem_nil, or_false] at ht
    rcases ht with rfl | rfl | rfl | rfl <;> kernel_rfl
  exact h t (by simpa using Array.mem_of_getElem? ht)
theorem matches_holds : Rows.DivisiMatchesReferenceUptoCardSaid :=
  Claim7.holds_tied_plain_at .later [] _ _ _ _ matches_said (fun _ h => by cases h) (by kernel_rfl) (fun _ h => by cases h) divisiMatchesReferenceUpto_row_tie rfl ⟨rfl, rfl⟩ (by kernel_rfl) rfl matches_plain (by kernel_rfl)
#print axioms matches_holds
end Go.Proofs.YtjfkfkjkbgiciaaGreatDoor
