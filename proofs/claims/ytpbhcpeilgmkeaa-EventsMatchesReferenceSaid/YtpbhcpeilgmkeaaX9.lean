/-
  The evaluator, the printed walks and the plain laws, part 9 of 9.
-/
import Derived.Test.YtpbhcpeilgmkeaaX8
set_option linter.all false
set_option linter.unnecessarySimpa false
set_option linter.deprecated false
set_option linter.unusedVariables false
set_option linter.unusedSimpArgs false
set_option linter.unusedSectionVars false

/-
  The frame of this seat: its types in memory.
-/
namespace Go.Proofs.Ytpbhcpeilgmkeaa
open Go Go.Eva Go.RowKit Go.ChangeShapes Go.WideShapes

theorem own : ownKnob Try.prog.godebug = none := by kernel_rfl
theorem laidOut : laidOutB Try.prog = true := by kernel_rfl
theorem field_some {H : Type} {en : TypeId × Value → H} {P : Program} {w : World} {base : Nat} {spare : Nat → Bool} {held : Bool} {n : Nat} {cs : List Value} {xs : List (DataW H × List MemPlace)} {fs : Array Field} (hl : xs.length = fs.size)
    (hf : ∀ (i : Nat) (f : Field), fs[i]? = some f → DataW.trod en P w base spare held n f.type ((cs.drop f.offset).take (P.cellsOf f.type)) = xs[i]?) (i : Nat) (f : Field) (hi : fs[i]? = some f) {s : Nat} (hs : P.cellsOf f.type = s) :
    ∃ x, DataW.trod en P w base spare held n f.type ((cs.drop f.offset).take s) = some x := by
  have h := hf i f hi
  rw [hs] at h
  have : i < xs.length := by rw [hl]; exact (Array.getElem?_eq_some_iff.1 hi).1
  exact ⟨xs[i], by rw [h]; exact List.getElem?_eq_getElem this⟩
theorem opens_3 : Opens Try.prog 3 Int fun n => -9223372036854775808 ≤ n ∧ n ≤ 9223372036854775807 := opens_int Try.underlying3
theorem opens_9 : Opens Try.prog 9 ByteArray fun s => s.size ≤ maxLen := opens_str Try.underlying9
theorem opens_38 : Opens Try.prog 38 Reader fun _ => True := by
  intro H en w base spare held fuel cs x h
  obtain ⟨xs, n, _, _, hl, hxl, hf⟩ := DataW.trod_struct Try.underlying38 h
  obtain ⟨_, h0⟩ := field_some hxl hf 0 _ rfl (s := 1) (by kernel_rfl)
  obtain ⟨_, h1⟩ := field_some hxl hf 1 _ rfl (s := 1) (by kernel_rfl)
  obtain ⟨_, h2⟩ := field_some hxl hf 2 _ rfl (s := 1) (by kernel_rfl)
  obtain ⟨a0, _, k0⟩ := opens_3 _ _ _ _ _ _ _ _ _ h0
  obtain ⟨a1, _, k1⟩ := opens_3 _ _ _ _ _ _ _ _ _ h1
  obtain ⟨a2, _, k2⟩ := opens_3 _ _ _ _ _ _ _ _ _ h2
  have hn : cs.length = 3 := hl.trans (by kernel_rfl)
  exact ⟨⟨a0, a1, a2⟩, trivial, cells_cons k0 (cells_cons k1 (cells_cons k2 (cells_nil _ hn)))⟩
theorem opens_40 : Opens Try.prog 40 Mark fun _ => True := by
  intro H en w base spare held fuel cs x h
  obtain ⟨xs, n, _, _, hl, hxl, hf⟩ := DataW.trod_struct Try.underlying40 h
  obtain ⟨_, h0⟩ := field_some hxl hf 0 _ rfl (s := 1) (by kernel_rfl)
  obtain ⟨_, h1⟩ := field_some hxl hf 1 _ rfl (s := 1) (by kernel_rfl)
  obtain ⟨_, h2⟩ := field_some hxl hf 2 _ rfl (s := 1) (by kernel_rfl)
  obtain ⟨_, h3⟩ := field_some hxl hf 3 _ rfl (s := 3) (by kernel_rfl)
  obtain ⟨_, h4⟩ := field_some hxl hf 4 _ rfl (s := 1) (by kernel_rfl)
  obtain ⟨_, h5⟩ := field_some hxl hf 5 _ rfl (s := 1) (by kernel_rfl)
  obtain ⟨_, h6⟩ := field_some hxl hf 6 _ rfl (s := 1) (by kernel_rfl)
  obtain ⟨_, h7⟩ := field_some hxl hf 7 _ rfl (s := 1) (by kernel_rfl)
  obtain ⟨a0, _, k0⟩ := opens_3 _ _ _ _ _ _ _ _ _ h0
  obtain ⟨a1, _, k1⟩ := opens_3 _ _ _ _ _ _ _ _ _ h1
  obtain ⟨a2, _, k2⟩ := opens_3 _ _ _ _ _ _ _ _ _ h2
  obtain ⟨a3, _, k3⟩ := opens_38 _ _ _ _ _ _ _ _ _ h3
  obtain ⟨a4, _, k4⟩ := opens_3 _ _ _ _ _ _ _ _ _ h4
  obtain ⟨a5, _, k5⟩ := opens_3 _ _ _ _ _ _ _ _ _ h5
  obtain ⟨a6, _, k6⟩ := opens_3 _ _ _ _ _ _ _ _ _ h6
  obtain ⟨a7, _, k7⟩ := opens_9 _ _ _ _ _ _ _ _ _ h7
  have hn : cs.length = 10 := hl.trans (by kernel_rfl)
  exact ⟨⟨a0, a1, a2, a3, a4, a5, a6, a7⟩, trivial, cells_cons k0 (cells_cons k1 (cells_cons k2 (cells_cons k3 (cells_cons k4 (cells_cons k5 (cells_cons k6 (cells_cons k7 (cells_nil _ hn))))))))⟩
theorem opens_42 : Opens Try.prog 42 Event fun _ => True := by
  intro H en w base spare held fuel cs x h
  obtain ⟨xs, n, _, _, hl, hxl, hf⟩ := DataW.trod_struct Try.underlying42 h
  obtain ⟨_, h0⟩ := field_some hxl hf 0 _ rfl (s := 1) (by kernel_rfl)
  obtain ⟨_, h1⟩ := field_some hxl hf 1 _ rfl (s := 1) (by kernel_rfl)
  obtain ⟨_, h2⟩ := field_some hxl hf 2 _ rfl (s := 1) (by kernel_rfl)
  obtain ⟨_, h3⟩ := field_some hxl hf 3 _ rfl (s := 1) (by kernel_rfl)
  obtain ⟨_, h4⟩ := field_some hxl hf 4 _ rfl (s := 10) (by kernel_rfl)
  obtain ⟨a0, _, k0⟩ := opens_3 _ _ _ _ _ _ _ _ _ h0
  obtain ⟨a1, _, k1⟩ := opens_3 _ _ _ _ _ _ _ _ _ h1
  obtain ⟨a2, _, k2⟩ := opens_3 _ _ _ _ _ _ _ _ _ h2
  obtain ⟨a3, _, k3⟩ := opens_3 _ _ _ _ _ _ _ _ _ h3
  obtain ⟨a4, _, k4⟩ := opens_40 _ _ _ _ _ _ _ _ _ h4
  have hn : cs.length = 14 := hl.trans (by kernel_rfl)
  exact ⟨⟨a0, a1, a2, a3, a4⟩, trivial, cells_cons k0 (cells_cons k1 (cells_cons k2 (cells_cons k3 (cells_cons k4 (cells_nil _ hn)))))⟩
theorem opens_22 : Opens Try.prog 22 (List Event) fun l => l.length ≤ maxLen ∧ ∀ a ∈ l, True := opens_slice Try.underlying22 (by kernel_rfl) (by rw [show Try.prog.cellsOf 42 = 14 by kernel_rfl]; omega) opens_42
theorem opens_5 : Opens Try.prog 5 (IntK .u8) fun n => (Lit.int .u8 n.n).wf = true := opens_intk Try.underlying5
theorem shutBool {H : Type} {en : TypeId × Value → H} {W : World} {base : Nat} {sp : Nat → Bool} {held : Bool} (b : Bool) : DataW.Trod en Try.prog W base sp held 4 (.bool b) (.lit (.bool b)) [] := ⟨1, by simp [DataW.trod, Value.cells, Try.underlying4]⟩

theorem ran3 (l more : List Event) (stand : Int) : PureCon Try.prog 3 [Enc.enc l, Enc.enc more, Enc.enc stand] (.bool true) := by
  have h := ok3.con [Enc.enc l, Enc.enc more, Enc.enc stand] _ _ rfl (by simp only [Enc.dec_enc, matches_eq]; exact ⟨trivial, trivial, trivial, rfl⟩)
  simp only [Enc.dec_enc, matches_eq] at h
  exact h
theorem ran8 (l more : List Event) (stand : Int) : PureCon Try.prog 8 [Enc.enc l, Enc.enc more, Enc.enc stand] (.bool true) := by
  have h := ok8.con [Enc.enc l, Enc.enc more, Enc.enc stand] _ _ rfl (by simp only [Enc.dec_enc, known_eq]; exact ⟨trivial, trivial, trivial, rfl⟩)
  simp only [Enc.dec_enc, known_eq] at h
  exact h
theorem ran5 (l m n : List Event) (part : IntK .u8) (h0 : 0 ≤ part.n) (h1 : part.n ≤ 255) : PureCon Try.prog 5 [Enc.enc l, Enc.enc m, Enc.enc n, Enc.enc part] (.bool true) := by
  have h := ok5.con [Enc.enc l, Enc.enc m, Enc.enc n, Enc.enc part] _ _ rfl (by simp only [Enc.dec_enc, join_eq l m n part h0 h1]; exact ⟨trivial, trivial, trivial, trivial, rfl⟩)
  simp only [Enc.dec_enc, join_eq l m n part h0 h1] at h
  exact h
end Go.Proofs.Ytpbhcpeilgmkeaa
