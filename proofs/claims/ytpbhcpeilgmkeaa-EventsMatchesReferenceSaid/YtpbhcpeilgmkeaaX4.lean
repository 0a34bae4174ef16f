/-
  The evaluator, the printed walks and the plain laws, part 4 of 9.
-/
import Derived.Test.YtpbhcpeilgmkeaaX3
import Derived.ProofKit
import Derived.ChangeArms
import Derived.Deep.Slices
import Derived.Carry
import Derived.Test.YtpbhcpeilgmkeaaRows
set_option linter.all false
set_option linter.unnecessarySimpa false
set_option linter.deprecated false
set_option linter.unusedVariables false
set_option linter.unusedSimpArgs false
set_option linter.unusedSectionVars false

/-
  Eva, the frame: arguments of any world read as Lean's own data; from a contract to the row's lifted form.
-/
namespace Go.Eva
open Go Go.RowKit Enc Go.ChangeShapes Go.WideShapes
variable [Drw]
set_option linter.unusedSectionVars false
set_option linter.unusedSimpArgs false

open Classical in
/-- Whatever a world holds, taken as known for good. -/
noncomputable def allI (w : World) : Imm := ⟨fun b o => w.cell? ⟨b, o, none⟩, fun b => if h : ∃ es clk, MapAt w.heap[b]? es clk then some (Classical.choose h) else none⟩
theorem allI_sat (w : World) : SatI w (allI w) := ⟨fun _ _ _ h => h, fun b es h => by
  unfold allI at h
  simp only at h
  split at h
  · rename_i hx
    cases h
    exact Classical.choose_spec hx
  · cases h⟩
theorem allI_mp {w : World} {b clk : Nat} {es : Array MapEntry} (h : MapAt w.heap[b]? es clk) : (allI w).mp b = some es := by
  have hx : ∃ es clk, MapAt w.heap[b]? es clk := ⟨es, clk, h⟩
  unfold allI
  simp only
  rw [dif_pos hx]
  obtain ⟨c, hc⟩ := Classical.choose_spec hx
  have := hc.1.symm.trans h.1
  simp only [Option.some.injEq, Obj.map.injEq] at this
  rw [this.1]

theorem cells_nil (I : Imm) {cs : List Value} {n : Nat} (h : cs.length = n) : Cells I (cs.drop n) [] := by
  refine ⟨by simp [h], by simp, fun i v d _ hd => by simp at hd⟩
theorem cells_cons {I : Imm} {cs : List Value} {o s : Nat} {ys zs : List D} (h1 : Cells I ((cs.drop o).take s) ys) (h2 : Cells I (cs.drop (o + s)) zs) : Cells I (cs.drop o) (ys ++ zs) := by
  have e : cs.drop o = (cs.drop o).take s ++ cs.drop (o + s) := by rw [← List.drop_drop, List.take_append_drop]
  rw [e]
  obtain ⟨a1, a2, a3⟩ := h1
  obtain ⟨b1, b2, b3⟩ := h2
  refine ⟨by simp only [List.length_append, a1, b1], fun d hd => (List.mem_append.1 hd).elim (a2 d) (b2 d), fun i v d hv hd => ?_⟩
  by_cases hi : i < ys.length
  · rw [List.getElem?_append_left (by omega)] at hv
    rw [List.getElem?_append_left hi] at hd
    exact a3 i v d hv hd
  · rw [List.getElem?_append_right (by omega), a1] at hv
    rw [List.getElem?_append_right (by omega)] at hd
    exact b3 _ v d hv hd
theorem cells_one {I : Imm} {v : Value} {d : D} (hd : d.one = true) (h : Rd I v d) : Cells I [v] [d] :=
  ⟨rfl, by simpa using hd, fun i x y hx hy => by
    rcases i with _ | i
    · simp at hx hy; subst hx; subst hy; exact h
    · simp at hx⟩

theorem addr_add (b o k : Nat) : (⟨b, o, none⟩ : Addr).add k = ⟨b, o + k, none⟩ := by
  unfold Addr.add; split
  · rename_i h; subst h; rfl
  · rfl
/-- What lies in memory at type t reads as a value of α. -/
def Opens (P : Program) (t : TypeId) (α : Type) [Enc α] (good : α → Prop) : Prop :=
  ∀ (H : Type) (en : TypeId × Value → H) (w : World) (base : Nat) (spare : Nat → Bool) (held : Bool) (fuel : Nat) (cs : List Value) (x : DataW H × List MemPlace),
    DataW.trod en P w base spare held fuel t cs = some x → ∃ a : α, good a ∧ Cells (allI w) cs (enc a).cells
section
variable {P : Program} {t e : TypeId}
theorem opens_int (ht : P.underlying t = some (.int .i64)) : Opens P t Int fun n => -9223372036854775808 ≤ n ∧ n ≤ 9223372036854775807 := by
  intro H en w base spare held fuel cs x h
  obtain ⟨n, rfl, _, hw⟩ := DataW.trod_int ht h
  refine ⟨n, ?_, cells_one rfl (.int _ _)⟩
  simp only [Lit.wf, IntKind.has, IntKind.min, IntKind.max, IntKind.signed, IntKind.bits, Bool.and_eq_true, decide_eq_true_eq] at hw
  simp at hw
  omega
theorem opens_intk {k : IntKind} (ht : P.underlying t = some (.int k)) : Opens P t (IntK k) fun n => (Lit.int k n.n).wf = true := by
  intro H en w base spare held fuel cs x h
  obtain ⟨n, rfl, _, hw⟩ := DataW.trod_int ht h
  exact ⟨⟨n⟩, hw, cells_one rfl (.int _ _)⟩
theorem opens_bool (ht : P.underlying t = some .bool) : Opens P t Bool fun _ => True := by
  intro H en w base spare held fuel cs x h
  obtain ⟨n, rfl, _⟩ := DataW.trod_bool ht h
  exact ⟨n, trivial, cells_one rfl (.bool _)⟩
theorem opens_str (ht : P.underlying t = some .string) : Opens P t ByteArray fun s => s.size ≤ maxLen := by
  intro H en w base spare held fuel cs x h
  obtain ⟨n, rfl, _, hs⟩ := DataW.trod_string ht h
  exact ⟨n, hs, cells_one rfl (.str _)⟩
theorem opens_slice {α : Type} [Enc α] {good : α → Prop} (ht : P.underlying t = some (.slice e)) (hsz : P.cellsOf e = size α) (hpos : 0 < P.cellsOf e) (ho : Opens P e α good) : Opens P t (List α) fun l => l.length ≤ maxLen ∧ ∀ a ∈ l, good a := by
  intro H en w base spare held fuel cs x h
  have hpos' : 0 < size α := by rw [← hsz]; exact hpos
  rcases Go.Deep.open_slice ht h with ⟨rfl, _⟩ | ⟨a, len, cap, m, n, D0, Pl, rfl, _, hl, hm, hmm, _, hi⟩
  · exact ⟨[], ⟨Nat.zero_le _, by simp⟩, cells_one rfl (.slice0 _ _ _ (Nat.zero_le _))⟩
  · have hlm : len ≤ m := by rw [hmm]; split <;> omega
    rcases Nat.eq_zero_or_pos len with h0 | h0
    · subst h0
      exact ⟨[], ⟨Nat.zero_le _, by simp⟩, cells_one rfl (.slice0 _ _ _ hm)⟩
    · have hel : ∀ i, i < len → ∃ (y : α) (cs' : List Value), good y ∧ (∀ j, j < size α → w.cell? (a.add (i * size α + j)) = cs'[j]?) ∧ cs'.length = size α ∧ Cells (allI w) cs' (enc y).cells := fun i hil => by
        obtain ⟨cs', hc, ht'⟩ := hi i (by omega)
        obtain ⟨y, hy, hcs⟩ := ho H en w base spare held n cs' _ ht'
        rw [hsz] at hc
        obtain ⟨_, hcl, hat⟩ := World.cells?_some hc
        exact ⟨y, cs', hy, fun j hj => by rw [← hat j hj, Go.Deep.add_add], hcl, hcs⟩
      obtain ⟨b, off, spot⟩ := a
      have hspot : spot = none := by
        obtain ⟨y, cs', _, hat, hcl, _⟩ := hel 0 h0
        have h1 := hat 0 hpos'
        rw [List.getElem?_eq_getElem (by omega)] at h1
        simpa [Addr.add] using World.cell?_spot h1
      subst hspot
      have hex : ∀ k, k ≤ len → ∃ l : List α, l.length = k ∧ (∀ y ∈ l, good y) ∧ ∀ (i : Nat) (y : α), l[i]? = some y → ∀ j, j < size α → ∃ v d, w.cell? ⟨b, off + (i * size α + j), none⟩ = some v ∧ (enc y).cells[j]? = some d ∧ Rd (allI w) v d := by
        intro k
        induction k with
        | zero => exact fun _ => ⟨[], rfl, by simp, by simp⟩
        | succ k ih =>
          intro hk
          obtain ⟨l, h1, h2, h3⟩ := ih (by omega)
          obtain ⟨y, cs', hy, hat, hcl, hcs⟩ := hel k (by omega)
          refine ⟨l ++ [y], by simp [h1], fun z hz => ?_, fun i z hz j hj => ?_⟩
          · rcases List.mem_append.1 hz with h4 | h4
            · exact h2 z h4
            · simp at h4; subst h4; exact hy
          · by_cases hil : i < l.length
            · rw [List.getElem?_append_left hil] at hz
              exact h3 i z hz j hj
            · rw [List.getElem?_append_right (by omega)] at hz
              have hik : i = k := by
                have := (List.getElem?_eq_some_iff.1 hz).1
                simp at this; omega
              subst hik
              rw [h1] at hz
              simp at hz
              subst hz
              have hv : cs'[j]? = some (cs'[j]'(by omega)) := List.getElem?_eq_getElem (by omega)
              have hd : (enc y).cells[j]? = some ((enc y).cells[j]'(by rw [Enc.len]; exact hj)) := List.getElem?_eq_getElem _
              refine ⟨_, _, ?_, hd, hcs.2.2 j _ _ hv hd⟩
              have := hat j hj
              rw [hv, addr_add] at this
              exact this
      obtain ⟨l, h1, h2, h3⟩ := hex len (Nat.le_refl _)
      refine ⟨l, ⟨by omega, h2⟩, cells_one rfl ?_⟩
      rw [enc_list]
      have hflen : (flat (l.map (enc : α → D))).length = len * size α := by
        rw [flat_len (l.map (enc : α → D)) (size := size α) fun d hd => by obtain ⟨y, _, rfl⟩ := List.mem_map.1 hd; exact Enc.len y]
        simp [h1]
      have hfl : ∀ k, k < len * size α → ∃ v d, w.cell? ⟨b, off + k, none⟩ = some v ∧ (flat (l.map (enc : α → D)))[k]? = some d ∧ Rd (allI w) v d := fun k hk => by
        have hi : k / size α < len := (Nat.div_lt_iff_lt_mul hpos').2 hk
        have hj : k % size α < size α := Nat.mod_lt _ hpos'
        have hy : l[k / size α]? = some (l[k / size α]'(by omega)) := List.getElem?_eq_getElem (by omega)
        obtain ⟨v, d, k1, k2, k3⟩ := h3 _ _ hy _ hj
        refine ⟨v, d, ?_, ?_, k3⟩
        · rw [Nat.mul_comm, Nat.div_add_mod] at k1; exact k1
        · rw [show k = k / size α * size α + k % size α by rw [Nat.mul_comm]; exact (Nat.div_add_mod k (size α)).symm]
          rw [flat_get (l.map (enc : α → D)) (fun d hd => by obtain ⟨y, _, rfl⟩ := List.mem_map.1 hd; exact Enc.len y) _ _ (enc (l[k / size α]'(by omega))) (by rw [List.getElem?_map, hy]; rfl) hj]
          exact k2
      refine .slice b off len cap (size α) _ (fun k => (w.cell? ⟨b, off + k, none⟩).getD undef) (by simp [h1]) hl hm (fun d hd => ?_) (fun k hk => ?_) (fun k x hx => ?_)
      · obtain ⟨y, _, rfl⟩ := List.mem_map.1 hd
        exact ⟨Enc.len y, Enc.ones y⟩
      · obtain ⟨v, d, k1, _, _⟩ := hfl k hk
        show w.cell? ⟨b, off + k, none⟩ = _
        simp [k1]
      · have hk : k < len * size α := by rw [← hflen]; exact (List.getElem?_eq_some_iff.1 hx).1
        obtain ⟨v, d, k1, k2, k3⟩ := hfl k hk
        rw [hx] at k2; cases k2
        simpa [k1] using k3
theorem notAgg {W : World} {r : Reach} {b : Nat} {v : Value} (h : Value.okWide P W r b t v) (hk : (match P.underlying t with | some (.struct _) | some (.array _ _) => false | _ => true) = true) : ∀ cs, v ≠ .agg cs := by
  rintro cs rfl
  cases hu : P.underlying t with
  | none => simp [Value.okWide, hu, Cell.okWide, Cell.ok] at h
  | some d =>
    rw [hu] at hk
    cases d <;> first | (simp [Value.okWide, hu, Cell.okWide, Cell.ok] at h; done) | (simp at hk; done)
variable {H : Type} {en : TypeId × Value → H} {W : World} {base : Nat} {sp : Nat → Bool} {held : Bool} {v : Value} {d : DataW H} {ps : List MemPlace} {α : Type} [Enc α] {good : α → Prop}
/-- An argument of one cell, as Lean's own data. -/
theorem arg_one (hO : Opens P t α good) (h1 : ∀ a : α, (enc a).cells = [enc a]) {r : Reach} {b : Nat} (hok : Value.okWide P W r b t v) (hk : (match P.underlying t with | some (.struct _) | some (.array _ _) => false | _ => true) = true)
    (h : DataW.Trod en P W base sp held t v d ps) : ∃ a : α, good a ∧ Rd (allI W) v (enc a) := by
  obtain ⟨fuel, hf⟩ := h
  have hna := notAgg hok hk
  have hc : v.cells.toList = [v] := by cases v <;> first | rfl | exact absurd rfl (hna _)
  rw [hc] at hf
  obtain ⟨a, ha, hcs⟩ := hO H en W base sp held fuel _ _ hf
  rw [h1] at hcs
  exact ⟨a, ha, hcs.2.2 0 _ _ rfl rfl⟩
/-- A struct. -/
theorem arg_agg (hO : Opens P t α good) (h1 : ∀ a : α, enc a = .agg (enc a).cells) {fs : Array Field} (ht : P.underlying t = some (.struct fs)) {r : Reach} {b : Nat} (hok : Value.okWide P W r b t v)
    (h : DataW.Trod en P W base sp held t v d ps) : ∃ a : α, good a ∧ Rd (allI W) v (enc a) := by
  obtain ⟨fuel, hf⟩ := h
  obtain ⟨cs, rfl, _⟩ := okWide_struct ht hok
  obtain ⟨a, ha, hcs⟩ := hO H en W base sp held fuel _ _ hf
  refine ⟨a, ha, ?_⟩
  rw [h1]
  exact .agg cs _ (by have := hcs.1; simpa [Value.cells] using this) hcs.2.1 fun i v d hv hd => hcs.2.2 i v d (by simpa [Value.cells] using hv) hd
end
/-- Arguments read as they did. -/
theorem trodAll_below {H : Type} {en : TypeId × Value → H} {P : Program} (hl : laidOutB P = true) {W W' : World} (hb : Below W.heap.size W W') :
    ∀ {ts : List TypeId} {vs : List Value} {ds : List (DataW H)} {ps : List MemPlace}, (ts.all fun t => P.readableRec t && decide (t < P.types.size)) = true → DataW.TrodAll en P W 0 (fun _ => true) true ts vs ds ps → (∀ x ∈ ps, x.block < W.heap.size) → DataW.TrodAll en P W' 0 (fun b => decide (b < W.heap.size)) true ts vs ds ps
  | [], [], [], _, _, h, _ => h
  | t :: ts, v :: vs, d :: ds, _, ht, ⟨p, q, h1, h2, e⟩, hlt => by
    simp only [List.all_cons, Bool.and_eq_true, decide_eq_true_eq] at ht
    exact ⟨p, q, Below.trod hl ht.1.1 ht.1.2 h1 hb (fun x hx => hlt x (by rw [e]; exact List.mem_append_left _ hx)), trodAll_below hl hb ht.2 h2 (fun x hx => hlt x (by rw [e]; exact List.mem_append_right _ hx)), e⟩
  | [], _ :: _, _, _, _, h, _ => h.elim
  | [], [], _ :: _, _, _, h, _ => h.elim
  | _ :: _, [], _, _, _, h, _ => h.elim
  | _ :: _, _ :: _, [], _, _, h, _ => h.elim
/-- What a contract gives in any world. -/
theorem run_of {P : Program} {f : FuncId} {ds : List D} {r : D} (h : PureCon P f ds r) {W : World} {vs : Array Value} (hs : vs.size = ds.length) (hr : ∀ (i : Nat) v d, vs[i]? = some v → ds[i]? = some d → Rd (allI W) v d) :
    Calls P f vs W fun e w' => ∃ v J, e = .returned v ∧ Below W.heap.size W w' ∧ Rd J v r :=
  (h W (allI W) vs (allI_sat W) hs hr).mono fun _ _ ⟨v, J, h1, h2, _, _, h5⟩ => ⟨v, J, h1, h2.below, h5⟩
end Go.Eva

/-
  The types of this seat, as Eva wants them: printed by a program out of the translation.
-/
namespace Go.Proofs.Ytpbhcpeilgmkeaa
open Go Go.Eva

def tyTab : List (Nat × TI) := [
  (1, ⟨1, 8, [.nilfn], .prim⟩),
  (2, ⟨1, 8, [.int .i64 0], .intk .i64⟩),
  (3, ⟨1, 8, [.int .i64 0], .intk .i64⟩),
  (4, ⟨1, 1, [.bool false], .prim⟩),
  (5, ⟨1, 1, [.int .u8 0], .intk .u8⟩),
  (6, ⟨1, 1, [.int .u8 0], .intk .u8⟩),
  (7, ⟨4, 24, [.int .i64 0, .int .i64 0, .bool false, .int .u8 0], .struct [(0, 2), (1, 3), (2, 4), (3, 6)]⟩),
  (8, ⟨4, 24, [.int .i64 0, .int .i64 0, .bool false, .int .u8 0], .struct [(0, 2), (1, 3), (2, 4), (3, 6)]⟩),
  (9, ⟨1, 16, [.str ⟨#[]⟩], .string⟩),
  (10, ⟨1, 16, [.str ⟨#[]⟩], .string⟩),
  (11, ⟨1, 16, [.str ⟨#[]⟩], .string⟩),
  (12, ⟨1, 8, [.int .u64 0], .intk .u64⟩),
  (13, ⟨2, 24, [.str ⟨#[]⟩, .int .u64 0], .struct [(0, 9), (1, 12)]⟩),
  (14, ⟨2, 24, [.str ⟨#[]⟩, .int .u64 0], .struct [(0, 9), (1, 12)]⟩),
  (15, ⟨1, 8, [.nilp], .prim⟩),
  (16, ⟨1, 8, [.nilp], .prim⟩),
  (17, ⟨1, 8, [.nilp], .prim⟩),
  (18, ⟨1, 8, [.nilp], .struct [(0, 17)]⟩),
  (19, ⟨1, 8, [.nilp], .struct [(0, 17)]⟩),
  (21, ⟨1, 4, [.int .i32 0], .intk .i32⟩),
  (22, ⟨1, 24, [.slice 0 []], .slice 42⟩),
  (23, ⟨1, 8, [.nilfn], .prim⟩),
  (24, ⟨1, 8, [.nilfn], .prim⟩),
  (25, ⟨1, 8, [.int .i64 0], .intk .i64⟩),
  (27, ⟨1, 8, [.nilfn], .prim⟩),
  (28, ⟨1, 8, [.nilfn], .prim⟩),
  (29, ⟨1, 24, [.slice 0 []], .slice 40⟩),
  (31, ⟨1, 8, [.nilfn], .prim⟩),
  (32, ⟨1, 8, [.nilfn], .prim⟩),
  (34, ⟨1, 8, [.nilfn], .prim⟩),
  (35, ⟨1, 8, [.nilfn], .prim⟩),
  (36, ⟨1, 24, [.slice 0 []], .slice 5⟩),
  (37, ⟨3, 24, [.int .i64 0, .int .i64 0, .int .i64 0], .struct [(0, 3), (1, 3), (2, 3)]⟩),
  (38, ⟨3, 24, [.int .i64 0, .int .i64 0, .int .i64 0], .struct [(0, 3), (1, 3), (2, 3)]⟩),
  (39, ⟨10, 88, [.int .i64 0, .int .i64 0, .int .i64 0, .int .i64 0, .int .i64 0, .int .i64 0, .int .i64 0, .int .i64 0, .int .i64 0, .str ⟨#[]⟩], .struct [(0, 3), (1, 3), (2, 3), (3, 38), (6, 3), (7, 3), (8, 3), (9, 9)]⟩),
  (40, ⟨10, 88, [.int .i64 0, .int .i64 0, .int .i64 0, .int .i64 0, .int .i64 0, .int .i64 0, .int .i64 0, .int .i64 0, .int .i64 0, .str ⟨#[]⟩], .struct [(0, 3), (1, 3), (2, 3), (3, 38), (6, 3), (7, 3), (8, 3), (9, 9)]⟩),
  (41, ⟨14, 120, [.int .i64 0, .int .i64 0, .int .i64 0, .int .i64 0, .int .i64 0, .int .i64 0, .int .i64 0, .int .i64 0, .int .i64 0, .int .i64 0, .int .i64 0, .int .i64 0, .int .i64 0, .str ⟨#[]⟩], .struct [(0, 3), (1, 3), (2, 3), (3, 3), (4, 40)]⟩),
  (42, ⟨14, 120, [.int .i64 0, .int .i64 0, .int .i64 0, .int .i64 0, .int .i64 0, .int .i64 0, .int .i64 0, .int .i64 0, .int .i64 0, .int .i64 0, .int .i64 0, .int .i64 0, .int .i64 0, .str ⟨#[]⟩], .struct [(0, 3), (1, 3), (2, 3), (3, 3), (4, 40)]⟩),
  (43, ⟨1, 8, [.nilfn], .prim⟩),
  (44, ⟨1, 8, [.nilfn], .prim⟩),
  (45, ⟨1, 8, [.map [] []], .map 3 42⟩),
  (46, ⟨1, 8, [.nilfn], .prim⟩),
  (47, ⟨1, 8, [.map [] []], .map 3 40⟩),
  (49, ⟨1, 8, [.nilfn], .prim⟩),
  (50, ⟨1, 8, [.nilfn], .prim⟩),
  (51, ⟨1, 8, [.nilfn], .prim⟩),
  (52, ⟨1, 8, [.nilfn], .prim⟩),
  (53, ⟨1, 8, [.nilfn], .prim⟩),
  (54, ⟨1, 8, [.nilfn], .prim⟩),
  (55, ⟨1, 8, [.nilfn], .prim⟩),
  (56, ⟨1, 8, [.nilfn], .prim⟩),
  (57, ⟨1, 8, [.nilfn], .prim⟩),
  (59, ⟨1, 8, [.nilfn], .prim⟩),
  (60, ⟨1, 8, [.nilfn], .prim⟩),
  (61, ⟨1, 8, [.nilfn], .prim⟩),
  (62, ⟨1, 24, [.slice 0 []], .slice 3⟩),
  (63, ⟨1, 8, [.nilfn], .prim⟩),
  (64, ⟨1, 8, [.nilfn], .prim⟩),
  (65, ⟨1, 8, [.nilfn], .prim⟩),
  (66, ⟨1, 8, [.nilfn], .prim⟩),
  (67, ⟨1, 8, [.nilfn], .prim⟩),
  (68, ⟨1, 8, [.nilfn], .prim⟩),
  (69, ⟨1, 8, [.nilfn], .prim⟩),
  (70, ⟨1, 8, [.nilfn], .prim⟩),
  (71, ⟨1, 8, [.nilfn], .prim⟩),
  (72, ⟨1, 8, [.nilfn], .prim⟩),
  (73, ⟨1, 8, [.int .u64 0], .intk .u64⟩),
  (74, ⟨1, 8, [.nilfn], .prim⟩),
  (75, ⟨1, 8, [.nilfn], .prim⟩),
  (76, ⟨1, 8, [.nilfn], .prim⟩),
  (77, ⟨1, 8, [.nilfn], .prim⟩),
  (78, ⟨1, 8, [.nilfn], .prim⟩),
  (79, ⟨2, 16, [.nilfn, .nilfn], .struct [(0, 77), (1, 78)]⟩),
  (80, ⟨2, 16, [.nilfn, .nilfn], .struct [(0, 77), (1, 78)]⟩),
  (82, ⟨1, 8, [.map [] []], .map 3 80⟩),
  (83, ⟨1, 8, [.nilfn], .prim⟩),
  (84, ⟨1, 8, [.nilfn], .prim⟩),
  (85, ⟨1, 8, [.nilfn], .prim⟩),
  (86, ⟨1, 24, [.slice 0 []], .slice 21⟩),
  (87, ⟨1, 8, [.nilfn], .prim⟩),
  (88, ⟨1, 8, [.int .i64 0], .intk .i64⟩),
  (90, ⟨1, 8, [.nilfn], .prim⟩),
  (91, ⟨1, 8, [.nilfn], .prim⟩),
  (92, ⟨1, 8, [.nilfn], .prim⟩),
  (94, ⟨1, 8, [.nilfn], .prim⟩),
  (95, ⟨1, 8, [.nilfn], .prim⟩),
  (96, ⟨1, 4, [.int .u32 0], .intk .u32⟩),
  (97, ⟨1, 8, [.nilfn], .prim⟩),
  (98, ⟨1, 8, [.int .u64 0], .intk .u64⟩),
  (99, ⟨1, 8, [.nilfn], .prim⟩),
  (100, ⟨1, 8, [.nilfn], .prim⟩),
  (101, ⟨1, 8, [.nilfn], .prim⟩),
  (102, ⟨1, 8, [.int .u64 0], .intk .u64⟩),
  (103, ⟨1, 8, [.nilfn], .prim⟩),
  (104, ⟨1, 8, [.nilfn], .prim⟩),
  (105, ⟨1, 8, [.nilfn], .prim⟩),
  (106, ⟨1, 8, [.nilp], .prim⟩),
  (107, ⟨1, 8, [.nilfn], .prim⟩),
  (108, ⟨1, 8, [.nilfn], .prim⟩),
  (109, ⟨1, 8, [.nilfn], .prim⟩),
  (110, ⟨1, 8, [.nilfn], .prim⟩),
  (111, ⟨1, 8, [.nilfn], .prim⟩),
  (112, ⟨1, 8, [.nilfn], .prim⟩),
  (113, ⟨1, 8, [.nilfn], .prim⟩),
  (114, ⟨1, 8, [.nilp], .prim⟩),
  (116, ⟨1, 8, [.nilfn], .prim⟩),
  (117, ⟨1, 8, [.nilfn], .prim⟩),
  (118, ⟨1, 8, [.nilfn], .prim⟩),
  (119, ⟨1, 8, [.nilfn], .prim⟩),
  (120, ⟨1, 8, [.nilfn], .prim⟩),
  (121, ⟨4, 40, [.nilp, .nilp, .nilp, .str ⟨#[]⟩], .struct [(0, 17), (1, 17), (2, 17), (3, 9)]⟩),
  (122, ⟨4, 40, [.nilp, .nilp, .nilp, .str ⟨#[]⟩], .struct [(0, 17), (1, 17), (2, 17), (3, 9)]⟩),
  (123, ⟨0, 0, [], .array 0 16⟩),
  (124, ⟨0, 0, [], .struct [(0, 123)]⟩),
  (125, ⟨0, 0, [], .struct [(0, 123)]⟩),
  (126, ⟨1, 8, [.nilfn], .prim⟩),
  (127, ⟨1, 1, [.int .u8 0], .intk .u8⟩),
  (128, ⟨1, 1, [.int .u8 0], .intk .u8⟩),
  (129, ⟨1, 8, [.nilfn], .prim⟩),
  (130, ⟨1, 8, [.nilp], .prim⟩),
  (131, ⟨1, 4, [.int .i32 0], .intk .i32⟩),
  (132, ⟨1, 4, [.int .i32 0], .intk .i32⟩),
  (133, ⟨11, 48, [.int .u64 0, .int .u64 0, .int .u32 0, .int .u8 0, .int .u8 0, .int .u8 0, .int .u8 0, .nilfn, .nilp, .int .i32 0, .int .i32 0], .struct [(0, 12), (1, 12), (2, 96), (3, 127), (4, 5), (5, 5), (6, 128), (7, 129), (8, 130), (9, 131), (10, 132)]⟩),
  (134, ⟨11, 48, [.int .u64 0, .int .u64 0, .int .u32 0, .int .u8 0, .int .u8 0, .int .u8 0, .int .u8 0, .nilfn, .nilp, .int .i32 0, .int .i32 0], .struct [(0, 12), (1, 12), (2, 96), (3, 127), (4, 5), (5, 5), (6, 128), (7, 129), (8, 130), (9, 131), (10, 132)]⟩)]
def tenv : TEnv := fun t => (tyTab.find? fun p => p.1 == t).map (·.2)
theorem tyTab_ok : tyTab.all (fun p => tiOk Try.prog p.1 p.2) = true := by kernel_rfl
theorem tenv_ok : TOk Try.prog tenv := TOk.of_tab tyTab_ok
theorem te1 : tenv 1 = some ⟨1, 8, [.nilfn], .prim⟩ := rfl
theorem te2 : tenv 2 = some ⟨1, 8, [.int .i64 0], .intk .i64⟩ := rfl
theorem te3 : tenv 3 = some ⟨1, 8, [.int .i64 0], .intk .i64⟩ := rfl
theorem te4 : tenv 4 = some ⟨1, 1, [.bool false], .prim⟩ := rfl
theorem te5 : tenv 5 = some ⟨1, 1, [.int .u8 0], .intk .u8⟩ := rfl
theorem te6 : tenv 6 = some ⟨1, 1, [.int .u8 0], .intk .u8⟩ := rfl
theorem te7 : tenv 7 = some ⟨4, 24, [.int .i64 0, .int .i64 0, .bool false, .int .u8 0], .struct [(0, 2), (1, 3), (2, 4), (3, 6)]⟩ := rfl
theorem te8 : tenv 8 = some ⟨4, 24, [.int .i64 0, .int .i64 0, .bool false, .int .u8 0], .struct [(0, 2), (1, 3), (2, 4), (3, 6)]⟩ := rfl
theorem te9 : tenv 9 = some ⟨1, 16, [.str ⟨#[]⟩], .string⟩ := rfl
theorem te10 : tenv 10 = some ⟨1, 16, [.str ⟨#[]⟩], .string⟩ := rfl
theorem te11 : tenv 11 = some ⟨1, 16, [.str ⟨#[]⟩], .string⟩ := rfl
theorem te12 : tenv 12 = some ⟨1, 8, [.int .u64 0], .intk .u64⟩ := rfl
theorem te13 : tenv 13 = some ⟨2, 24, [.str ⟨#[]⟩, .int .u64 0], .struct [(0, 9), (1, 12)]⟩ := rfl
theorem te14 : tenv 14 = some ⟨2, 24, [.str ⟨#[]⟩, .int .u64 0], .struct [(0, 9), (1, 12)]⟩ := rfl
theorem te15 : tenv 15 = some ⟨1, 8, [.nilp], .prim⟩ := rfl
theorem te16 : tenv 16 = some ⟨1, 8, [.nilp], .prim⟩ := rfl
theorem te17 : tenv 17 = some ⟨1, 8, [.nilp], .prim⟩ := rfl
theorem te18 : tenv 18 = some ⟨1, 8, [.nilp], .struct [(0, 17)]⟩ := rfl
theorem te19 : tenv 19 = some ⟨1, 8, [.nilp], .struct [(0, 17)]⟩ := rfl
theorem te21 : tenv 21 = some ⟨1, 4, [.int .i32 0], .intk .i32⟩ := rfl
theorem te22 : tenv 22 = some ⟨1, 24, [.slice 0 []], .slice 42⟩ := rfl
theorem te23 : tenv 23 = some ⟨1, 8, [.nilfn], .prim⟩ := rfl
theorem te24 : tenv 24 = some ⟨1, 8, [.nilfn], .prim⟩ := rfl
theorem te25 : tenv 25 = some ⟨1, 8, [.int .i64 0], .intk .i64⟩ := rfl
theorem te27 : tenv 27 = some ⟨1, 8, [.nilfn], .prim⟩ := rfl
theorem te28 : tenv 28 = some ⟨1, 8, [.nilfn], .prim⟩ := rfl
theorem te29 : tenv 29 = some ⟨1, 24, [.slice 0 []], .slice 40⟩ := rfl
theorem te31 : tenv 31 = some ⟨1, 8, [.nilfn], .prim⟩ := rfl
theorem te32 : tenv 32 = some ⟨1, 8, [.nilfn], .prim⟩ := rfl
theorem te34 : tenv 34 = some ⟨1, 8, [.nilfn], .prim⟩ := rfl
theorem te35 : tenv 35 = some ⟨1, 8, [.nilfn], .prim⟩ := rfl
theorem te36 : tenv 36 = some ⟨1, 24, [.slice 0 []], .slice 5⟩ := rfl
theorem te37 : tenv 37 = some ⟨3, 24, [.int .i64 0, .int .i64 0, .int .i64 0], .struct [(0, 3), (1, 3), (2, 3)]⟩ := rfl
theorem te38 : tenv 38 = some ⟨3, 24, [.int .i64 0, .int .i64 0, .int .i64 0], .struct [(0, 3), (1, 3), (2, 3)]⟩ := rfl
theorem te39 : tenv 39 = some ⟨10, 88, [.int .i64 0, .int .i64 0, .int .i64 0, .int .i64 0, .int .i64 0, .int .i64 0, .int .i64 0, .int .i64 0, .int .i64 0, .str ⟨#[]⟩], .struct [(0, 3), (1, 3), (2, 3), (3, 38), (6, 3), (7, 3), (8, 3), (9, 9)]⟩ := rfl
theorem te40 : tenv 40 = some ⟨10, 88, [.int .i64 0, .int .i64 0, .int .i64 0, .int .i64 0, .int .i64 0, .int .i64 0, .int .i64 0, .int .i64 0, .int .i64 0, .str ⟨#[]⟩], .struct [(0, 3), (1, 3), (2, 3), (3, 38), (6, 3), (7, 3), (8, 3), (9, 9)]⟩ := rfl
theorem te41 : tenv 41 = some ⟨14, 120, [.int .i64 0, .int .i64 0, .int .i64 0, .int .i64 0, .int .i64 0, .int .i64 0, .int .i64 0, .int .i64 0, .int .i64 0, .int .i64 0, .int .i64 0, .int .i64 0, .int .i64 0, .str ⟨#[]⟩], .struct [(0, 3), (1, 3), (2, 3), (3, 3), (4, 40)]⟩ := rfl
theorem te42 : tenv 42 = some ⟨14, 120, [.int .i64 0, .int .i64 0, .int .i64 0, .int .i64 0, .int .i64 0, .int .i64 0, .int .i64 0, .int .i64 0, .int .i64 0, .int .i64 0, .int .i64 0, .int .i64 0, .int .i64 0, .str ⟨#[]⟩], .struct [(0, 3), (1, 3), (2, 3), (3, 3), (4, 40)]⟩ := rfl
theorem te43 : tenv 43 = some ⟨1, 8, [.nilfn], .prim⟩ := rfl
theorem te44 : tenv 44 = some ⟨1, 8, [.nilfn], .prim⟩ := rfl
theorem te45 : tenv 45 = some ⟨1, 8, [.map [] []], .map 3 42⟩ := rfl
theorem te46 : tenv 46 = some ⟨1, 8, [.nilfn], .prim⟩ := rfl
theorem te47 : tenv 47 = some ⟨1, 8, [.map [] []], .map 3 40⟩ := rfl
theorem te49 : tenv 49 = some ⟨1, 8, [.nilfn], .prim⟩ := rfl
theorem te50 : tenv 50 = some ⟨1, 8, [.nilfn], .prim⟩ := rfl
theorem te51 : tenv 51 = some ⟨1, 8, [.nilfn], .prim⟩ := rfl
theorem te52 : tenv 52 = some ⟨1, 8, [.nilfn], .prim⟩ := rfl
theorem te53 : tenv 53 = some ⟨1, 8, [.nilfn], .prim⟩ := rfl
theorem te54 : tenv 54 = some ⟨1, 8, [.nilfn], .prim⟩ := rfl
theorem te55 : tenv 55 = some ⟨1, 8, [.nilfn], .prim⟩ := rfl
theorem te56 : tenv 56 = some ⟨1, 8, [.nilfn], .prim⟩ := rfl
theorem te57 : tenv 57 = some ⟨1, 8, [.nilfn], .prim⟩ := rfl
theorem te59 : tenv 59 = some ⟨1, 8, [.nilfn], .prim⟩ := rfl
theorem te60 : tenv 60 = some ⟨1, 8, [.nilfn], .prim⟩ := rfl
theorem te61 : tenv 61 = some ⟨1, 8, [.nilfn], .prim⟩ := rfl
theorem te62 : tenv 62 = some ⟨1, 24, [.slice 0 []], .slice 3⟩ := rfl
theorem te63 : tenv 63 = some ⟨1, 8, [.nilfn], .prim⟩ := rfl
theorem te64 : tenv 64 = some ⟨1, 8, [.nilfn], .prim⟩ := rfl
theorem te65 : tenv 65 = some ⟨1, 8, [.nilfn], .prim⟩ := rfl
theorem te66 : tenv 66 = some ⟨1, 8, [.nilfn], .prim⟩ := rfl
theorem te67 : tenv 67 = some ⟨1, 8, [.nilfn], .prim⟩ := rfl
theorem te68 : tenv 68 = some ⟨1, 8, [.nilfn], .prim⟩ := rfl
theorem te69 : tenv 69 = some ⟨1, 8, [.nilfn], .prim⟩ := rfl
theorem te70 : tenv 70 = some ⟨1, 8, [.nilfn], .prim⟩ := rfl
theorem te71 : tenv 71 = some ⟨1, 8, [.nilfn], .prim⟩ := rfl
theorem te72 : tenv 72 = some ⟨1, 8, [.nilfn], .prim⟩ := rfl
theorem te73 : tenv 73 = some ⟨1, 8, [.int .u64 0], .intk .u64⟩ := rfl
theorem te74 : tenv 74 = some ⟨1, 8, [.nilfn], .prim⟩ := rfl
theorem te75 : tenv 75 = some ⟨1, 8, [.nilfn], .prim⟩ := rfl
theorem te76 : tenv 76 = some ⟨1, 8, [.nilfn], .prim⟩ := rfl
theorem te77 : tenv 77 = some ⟨1, 8, [.nilfn], .prim⟩ := rfl
theorem te78 : tenv 78 = some ⟨1, 8, [.nilfn], .prim⟩ := rfl
theorem te79 : tenv 79 = some ⟨2, 16, [.nilfn, .nilfn], .struct [(0, 77), (1, 78)]⟩ := rfl
theorem te80 : tenv 80 = some ⟨2, 16, [.nilfn, .nilfn], .struct [(0, 77), (1, 78)]⟩ := rfl
theorem te82 : tenv 82 = some ⟨1, 8, [.map [] []], .map 3 80⟩ := rfl
theorem te83 : tenv 83 = some ⟨1, 8, [.nilfn], .prim⟩ := rfl
theorem te84 : tenv 84 = some ⟨1, 8, [.nilfn], .prim⟩ := rfl
theorem te85 : tenv 85 = some ⟨1, 8, [.nilfn], .prim⟩ := rfl
theorem te86 : tenv 86 = some ⟨1, 24, [.slice 0 []], .slice 21⟩ := rfl
theorem te87 : tenv 87 = some ⟨1, 8, [.nilfn], .prim⟩ := rfl
theorem te88 : tenv 88 = some ⟨1, 8, [.int .i64 0], .intk .i64⟩ := rfl
theorem te90 : tenv 90 = some ⟨1, 8, [.nilfn], .prim⟩ := rfl
theorem te91 : tenv 91 = some ⟨1, 8, [.nilfn], .prim⟩ := rfl
theorem te92 : tenv 92 = some ⟨1, 8, [.nilfn], .prim⟩ := rfl
theorem te94 : tenv 94 = some ⟨1, 8, [.nilfn], .prim⟩ := rfl
theorem te95 : tenv 95 = some ⟨1, 8, [.nilfn], .prim⟩ := rfl
theorem te96 : tenv 96 = some ⟨1, 4, [.int .u32 0], .intk .u32⟩ := rfl
theorem te97 : tenv 97 = some ⟨1, 8, [.nilfn], .prim⟩ := rfl
theorem te98 : tenv 98 = some ⟨1, 8, [.int .u64 0], .intk .u64⟩ := rfl
theorem te99 : tenv 99 = some ⟨1, 8, [.nilfn], .prim⟩ := rfl
theorem te100 : tenv 100 = some ⟨1, 8, [.nilfn], .prim⟩ := rfl
theorem te101 : tenv 101 = some ⟨1, 8, [.nilfn], .prim⟩ := rfl
theorem te102 : tenv 102 = some ⟨1, 8, [.int .u64 0], .intk .u64⟩ := rfl
theorem te103 : tenv 103 = some ⟨1, 8, [.nilfn], .prim⟩ := rfl
theorem te104 : tenv 104 = some ⟨1, 8, [.nilfn], .prim⟩ := rfl
theorem te105 : tenv 105 = some ⟨1, 8, [.nilfn], .prim⟩ := rfl
theorem te106 : tenv 106 = some ⟨1, 8, [.nilp], .prim⟩ := rfl
theorem te107 : tenv 107 = some ⟨1, 8, [.nilfn], .prim⟩ := rfl
theorem te108 : tenv 108 = some ⟨1, 8, [.nilfn], .prim⟩ := rfl
theorem te109 : tenv 109 = some ⟨1, 8, [.nilfn], .prim⟩ := rfl
theorem te110 : tenv 110 = some ⟨1, 8, [.nilfn], .prim⟩ := rfl
theorem te111 : tenv 111 = some ⟨1, 8, [.nilfn], .prim⟩ := rfl
theorem te112 : tenv 112 = some ⟨1, 8, [.nilfn], .prim⟩ := rfl
theorem te113 : tenv 113 = some ⟨1, 8, [.nilfn], .prim⟩ := rfl
theorem te114 : tenv 114 = some ⟨1, 8, [.nilp], .prim⟩ := rfl
theorem te116 : tenv 116 = some ⟨1, 8, [.nilfn], .prim⟩ := rfl
theorem te117 : tenv 117 = some ⟨1, 8, [.nilfn], .prim⟩ := rfl
theorem te118 : tenv 118 = some ⟨1, 8, [.nilfn], .prim⟩ := rfl
theorem te119 : tenv 119 = some ⟨1, 8, [.nilfn], .prim⟩ := rfl
theorem te120 : tenv 120 = some ⟨1, 8, [.nilfn], .prim⟩ := rfl
theorem te121 : tenv 121 = some ⟨4, 40, [.nilp, .nilp, .nilp, .str ⟨#[]⟩], .struct [(0, 17), (1, 17), (2, 17), (3, 9)]⟩ := rfl
theorem te122 : tenv 122 = some ⟨4, 40, [.nilp, .nilp, .nilp, .str ⟨#[]⟩], .struct [(0, 17), (1, 17), (2, 17), (3, 9)]⟩ := rfl
theorem te123 : tenv 123 = some ⟨0, 0, [], .array 0 16⟩ := rfl
theorem te124 : tenv 124 = some ⟨0, 0, [], .struct [(0, 123)]⟩ := rfl
theorem te125 : tenv 125 = some ⟨0, 0, [], .struct [(0, 123)]⟩ := rfl
theorem te126 : tenv 126 = some ⟨1, 8, [.nilfn], .prim⟩ := rfl
theorem te127 : tenv 127 = some ⟨1, 1, [.int .u8 0], .intk .u8⟩ := rfl
theorem te128 : tenv 128 = some ⟨1, 1, [.int .u8 0], .intk .u8⟩ := rfl
theorem te129 : tenv 129 = some ⟨1, 8, [.nilfn], .prim⟩ := rfl
theorem te130 : tenv 130 = some ⟨1, 8, [.nilp], .prim⟩ := rfl
theorem te131 : tenv 131 = some ⟨1, 4, [.int .i32 0], .intk .i32⟩ := rfl
theorem te132 : tenv 132 = some ⟨1, 4, [.int .i32 0], .intk .i32⟩ := rfl
theorem te133 : tenv 133 = some ⟨11, 48, [.int .u64 0, .int .u64 0, .int .u32 0, .int .u8 0, .int .u8 0, .int .u8 0, .int .u8 0, .nilfn, .nilp, .int .i32 0, .int .i32 0], .struct [(0, 12), (1, 12), (2, 96), (3, 127), (4, 5), (5, 5), (6, 128), (7, 129), (8, 130), (9, 131), (10, 132)]⟩ := rfl
theorem te134 : tenv 134 = some ⟨11, 48, [.int .u64 0, .int .u64 0, .int .u32 0, .int .u8 0, .int .u8 0, .int .u8 0, .int .u8 0, .nilfn, .nilp, .int .i32 0, .int .i32 0], .struct [(0, 12), (1, 12), (2, 96), (3, 127), (4, 5), (5, 5), (6, 128), (7, 129), (8, 130), (9, 131), (10, 132)]⟩ := rfl
end Go.Proofs.Ytpbhcpeilgmkeaa

/-
  The events' data in plain Lean.
-/
namespace Go.Proofs.Ytpbhcpeilgmkeaa
open Go Go.Eva

structure Reader where
  part : Int
  desk : Int
  seat : Int
  deriving DecidableEq
structure Mark where
  id : Int
  kind : Int
  layer : Int
  own : Reader
  version : Int
  note : Int
  value : Int
  text : ByteArray
  deriving DecidableEq
structure Event where
  clock : Int
  stand : Int
  kind : Int
  n : Int
  mark : Mark
  deriving DecidableEq

def encR (r : Reader) : List D := [.int .i64 r.part, .int .i64 r.desk, .int .i64 r.seat]
def encM (m : Mark) : List D := [.int .i64 m.id, .int .i64 m.kind, .int .i64 m.layer, .int .i64 m.own.part, .int .i64 m.own.desk, .int .i64 m.own.seat, .int .i64 m.version, .int .i64 m.note, .int .i64 m.value, .str m.text]
def encE (e : Event) : List D := [.int .i64 e.clock, .int .i64 e.stand, .int .i64 e.kind, .int .i64 e.n, .int .i64 e.mark.id, .int .i64 e.mark.kind, .int .i64 e.mark.layer, .int .i64 e.mark.own.part, .int .i64 e.mark.own.desk, .int .i64 e.mark.own.seat, .int .i64 e.mark.version, .int .i64 e.mark.note, .int .i64 e.mark.value, .str e.mark.text]
instance : Enc Reader := ⟨fun r => .agg (encR r), fun d => match d with | .agg [.int _ a, .int _ b, .int _ c] => ⟨a, b, c⟩ | _ => ⟨0, 0, 0⟩, 3, fun _ => rfl, fun _ => rfl, by simp [D.cells, encR, D.one]⟩
instance : Enc Mark := ⟨fun r => .agg (encM r), fun d => match d with | .agg [.int _ a, .int _ b, .int _ c, .int _ d, .int _ e, .int _ f, .int _ g, .int _ h, .int _ i, .str t] => ⟨a, b, c, ⟨d, e, f⟩, g, h, i, t⟩ | _ => ⟨0, 0, 0, ⟨0, 0, 0⟩, 0, 0, 0, ⟨#[]⟩⟩, 10, fun _ => rfl, fun _ => rfl, by simp [D.cells, encM, D.one]⟩
instance : Enc Event := ⟨fun r => .agg (encE r), fun d => match d with | .agg [.int _ w, .int _ x, .int _ y, .int _ z, .int _ a, .int _ b, .int _ c, .int _ d, .int _ e, .int _ f, .int _ g, .int _ h, .int _ i, .str t] => ⟨w, x, y, z, ⟨a, b, c, ⟨d, e, f⟩, g, h, i, t⟩⟩ | _ => ⟨0, 0, 0, 0, ⟨0, 0, 0, ⟨0, 0, 0⟩, 0, 0, 0, ⟨#[]⟩⟩⟩, 14, fun _ => rfl, fun _ => rfl, by simp [D.cells, encE, D.one]⟩
theorem enc_R (r : Reader) : Enc.enc r = .agg [.int .i64 r.part, .int .i64 r.desk, .int .i64 r.seat] := rfl
theorem enc_M (m : Mark) : Enc.enc m = .agg [.int .i64 m.id, .int .i64 m.kind, .int .i64 m.layer, .int .i64 m.own.part, .int .i64 m.own.desk, .int .i64 m.own.seat, .int .i64 m.version, .int .i64 m.note, .int .i64 m.value, .str m.text] := rfl
theorem enc_E (e : Event) : Enc.enc e = .agg [.int .i64 e.clock, .int .i64 e.stand, .int .i64 e.kind, .int .i64 e.n, .int .i64 e.mark.id, .int .i64 e.mark.kind, .int .i64 e.mark.layer, .int .i64 e.mark.own.part, .int .i64 e.mark.own.desk, .int .i64 e.mark.own.seat, .int .i64 e.mark.version, .int .i64 e.mark.note, .int .i64 e.mark.value, .str e.mark.text] := rfl
theorem dec_R (k1 k2 k3 : IntKind) (a b c : Int) : (Enc.dec (.agg [.int k1 a, .int k2 b, .int k3 c]) : Reader) = ⟨a, b, c⟩ := rfl
theorem dec_M (k1 k2 k3 k4 k5 k6 k7 k8 k9 : IntKind) (a b c d e f g h i : Int) (t : ByteArray) : (Enc.dec (.agg [.int k1 a, .int k2 b, .int k3 c, .int k4 d, .int k5 e, .int k6 f, .int k7 g, .int k8 h, .int k9 i, .str t]) : Mark) = ⟨a, b, c, ⟨d, e, f⟩, g, h, i, t⟩ := rfl
theorem dec_E (j1 j2 j3 j4 k1 k2 k3 k4 k5 k6 k7 k8 k9 : IntKind) (w x y z a b c d e f g h i : Int) (t : ByteArray) : (Enc.dec (.agg [.int j1 w, .int j2 x, .int j3 y, .int j4 z, .int k1 a, .int k2 b, .int k3 c, .int k4 d, .int k5 e, .int k6 f, .int k7 g, .int k8 h, .int k9 i, .str t]) : Event) = ⟨w, x, y, z, ⟨a, b, c, ⟨d, e, f⟩, g, h, i, t⟩⟩ := rfl
theorem size_R : Enc.size Reader = 3 := rfl
theorem size_M : Enc.size Mark = 10 := rfl
theorem size_E : Enc.size Event = 14 := rfl
theorem eta_R (r : Reader) : (⟨r.part, r.desk, r.seat⟩ : Reader) = r := rfl
theorem eta_M (m : Mark) : (⟨m.id, m.kind, m.layer, m.own, m.version, m.note, m.value, m.text⟩ : Mark) = m := rfl
theorem eta_E (e : Event) : (⟨e.clock, e.stand, e.kind, e.n, e.mark⟩ : Event) = e := rfl

theorem mixed : Try.prog.follows .mixedOrders = true := by kernel_rfl

def eqTab : List (Nat × List Lf) := [(4, [.bool]), (38, [.int .i64, .int .i64, .int .i64]), (40, [.int .i64, .int .i64, .int .i64, .int .i64, .int .i64, .int .i64, .int .i64, .int .i64, .int .i64, .str]), (42, [.int .i64, .int .i64, .int .i64, .int .i64, .int .i64, .int .i64, .int .i64, .int .i64, .int .i64, .int .i64, .int .i64, .int .i64, .int .i64, .str])]
theorem eqTab_ok : EqOk Try.prog (lfFind eqTab) := EqOk.of_tab (by kernel_rfl)
theorem eqT4 : lfFind eqTab 4 = some [.bool] := rfl
theorem eqT38 : lfFind eqTab 38 = some [.int .i64, .int .i64, .int .i64] := rfl
theorem eqT40 : lfFind eqTab 40 = some [.int .i64, .int .i64, .int .i64, .int .i64, .int .i64, .int .i64, .int .i64, .int .i64, .int .i64, .str] := rfl
theorem eqT42 : lfFind eqTab 42 = some [.int .i64, .int .i64, .int .i64, .int .i64, .int .i64, .int .i64, .int .i64, .int .i64, .int .i64, .int .i64, .int .i64, .int .i64, .int .i64, .str] := rfl
def env (l : List (FuncId × Eva.Spec)) : Env := { E := tenv, C := cfind l, okEq := lfFind eqTab }
theorem env_ok [Drw] {l : List (FuncId × Eva.Spec)} (h : Specs Try.prog l) : VOk Try.prog (env l) := ⟨tenv_ok, h.ok, eqTab_ok, fun _ _ _ _ h => by cases h⟩

theorem str_beq (a b : ByteArray) : (a == b) = decide (a = b) := by
  have h : ∀ a b : ByteArray, (a == b) = (a.data == b.data) := fun a b => rfl
  rw [h, Bool.eq_iff_iff]; simp [ByteArray.ext_iff]
theorem beq_R (a b : Reader) : (a.part == b.part && (a.desk == b.desk && (a.seat == b.seat && true))) = decide (a = b) := by
  cases a; cases b; rw [Bool.eq_iff_iff]; simp
theorem beq_M (a b : Mark) : beqDs (encM a) (encM b) = decide (a = b) := by
  rcases a with ⟨_, _, _, ⟨_, _, _⟩, _, _, _, _⟩; rcases b with ⟨_, _, _, ⟨_, _, _⟩, _, _, _, _⟩; rw [Bool.eq_iff_iff]; simp [encM, beqDs, beqD, str_beq]; grind
theorem beq_E (a b : Event) : beqDs (encE a) (encE b) = decide (a = b) := by
  rcases a with ⟨_, _, _, _, ⟨_, _, _, ⟨_, _, _⟩, _, _, _, _⟩⟩; rcases b with ⟨_, _, _, _, ⟨_, _, _, ⟨_, _, _⟩, _, _, _, _⟩⟩; rw [Bool.eq_iff_iff]; simp [encE, beqDs, beqD, str_beq]; grind

theorem beqL_R (a b : Reader) : beqDs [.int .i64 a.part, .int .i64 a.desk, .int .i64 a.seat] [.int .i64 b.part, .int .i64 b.desk, .int .i64 b.seat] = decide (a = b) := by simp only [beqDs, beqD]; exact beq_R a b
theorem beqL_M (a b : Mark) : beqDs [.int .i64 a.id, .int .i64 a.kind, .int .i64 a.layer, .int .i64 a.own.part, .int .i64 a.own.desk, .int .i64 a.own.seat, .int .i64 a.version, .int .i64 a.note, .int .i64 a.value, .str a.text] [.int .i64 b.id, .int .i64 b.kind, .int .i64 b.layer, .int .i64 b.own.part, .int .i64 b.own.desk, .int .i64 b.own.seat, .int .i64 b.version, .int .i64 b.note, .int .i64 b.value, .str b.text] = decide (a = b) := beq_M a b
theorem beqL_E (a b : Event) : beqDs [.int .i64 a.clock, .int .i64 a.stand, .int .i64 a.kind, .int .i64 a.n, .int .i64 a.mark.id, .int .i64 a.mark.kind, .int .i64 a.mark.layer, .int .i64 a.mark.own.part, .int .i64 a.mark.own.desk, .int .i64 a.mark.own.seat, .int .i64 a.mark.version, .int .i64 a.mark.note, .int .i64 a.mark.value, .str a.mark.text] [.int .i64 b.clock, .int .i64 b.stand, .int .i64 b.kind, .int .i64 b.n, .int .i64 b.mark.id, .int .i64 b.mark.kind, .int .i64 b.mark.layer, .int .i64 b.mark.own.part, .int .i64 b.mark.own.desk, .int .i64 b.mark.own.seat, .int .i64 b.mark.version, .int .i64 b.mark.note, .int .i64 b.mark.value, .str b.mark.text] = decide (a = b) := beq_E a b
def noMark : Mark := ⟨0, 0, 0, ⟨0, 0, 0⟩, 0, 0, 0, ⟨#[]⟩⟩
theorem beqL_M0 (m : Mark) : beqDs [.int .i64 m.id, .int .i64 m.kind, .int .i64 m.layer, .int .i64 m.own.part, .int .i64 m.own.desk, .int .i64 m.own.seat, .int .i64 m.version, .int .i64 m.note, .int .i64 m.value, .str m.text] [.int .i64 0, .int .i64 0, .int .i64 0, .int .i64 0, .int .i64 0, .int .i64 0, .int .i64 0, .int .i64 0, .int .i64 0, .str ⟨#[]⟩] = decide (m = noMark) := beq_M m noMark
theorem beqL_R0 (r : Reader) : beqDs [.int .i64 r.part, .int .i64 r.desk, .int .i64 r.seat] [.int .i64 0, .int .i64 0, .int .i64 0] = (decide (r.part = 0) && (decide (r.desk = 0) && decide (r.seat = 0))) := by
  rw [Bool.eq_iff_iff]; simp [beqDs, beqD]
def within (a lo hi : Int) : Bool := decide (lo ≤ a) && decide (a ≤ hi)
def isID (a : Int) : Bool := within a 1 1000000
def isReader (r : Reader) : Bool := isID r.part && within r.desk 1 40 && within r.seat 1 4
def before (a b : Event) : Bool := decide (a.clock < b.clock) || decide (a.clock = b.clock) && decide (a.stand < b.stand)
def compare (a b : Int) : Int := if a < b then -1 else if b < a then 1 else 0
def order (a b : Event) : Int := if compare a.clock b.clock = 0 then compare a.stand b.stand else compare a.clock b.clock
def forks (a b : Event) : Bool := decide (a.clock = b.clock) && decide (a.stand = b.stand) && !decide (a = b)
def about (e : Event) : Int := if e.kind = 1 then e.mark.id else if e.kind = 2 then e.n else 0
def byteOk (s : ByteArray) (k : Nat) : Bool := decide (32 ≤ byteAt s k) && decide (byteAt s k ≤ 126)
def allUpTo (s : ByteArray) (n : Nat) : Bool := (List.range n).all (byteOk s)
theorem allUpTo_zero (s : ByteArray) : allUpTo s 0 = true := rfl
theorem allUpTo_succ (s : ByteArray) (n : Nat) : allUpTo s (n + 1) = (allUpTo s n && byteOk s n) := by simp [allUpTo, List.range_succ]
theorem allUpTo_lt {s : ByteArray} {n k : Nat} (h : allUpTo s n = true) (hk : k < n) : 32 ≤ byteAt s k ∧ byteAt s k ≤ 126 := by simp [allUpTo, byteOk] at h; exact h k hk
def textOk (s : ByteArray) : Bool := decide (s.size ≤ 200) && allUpTo s s.size
def byOk (layer : Int) (r : Reader) : Bool :=
  if layer = 1 then isReader r
  else if layer = 2 then isID r.part && within r.desk 1 40 && decide (r.seat = 0)
  else if layer = 3 then within r.part 0 99 && decide (r.desk = 0) && decide (r.seat = 0)
  else if layer = 4 then decide (r.part = 0) && decide (r.desk = 0) && decide (r.seat = 0)
  else false
def markOk (m : Mark) : Bool := textOk m.text && byOk m.layer m.own && isID m.id && isID m.version && isID m.note && within m.kind 1 5 && (within m.value 0 1000 && (!decide (m.kind = 1) || decide (m.value ≤ 2)))
theorem noMark_iff (m : Mark) : m = noMark ↔ m.id = 0 ∧ m.kind = 0 ∧ m.layer = 0 ∧ m.own.part = 0 ∧ m.own.desk = 0 ∧ m.own.seat = 0 ∧ m.version = 0 ∧ m.note = 0 ∧ m.value = 0 ∧ (m.text == ⟨#[]⟩) = true := by
  rcases m with ⟨_, _, _, ⟨_, _, _⟩, _, _, _, _⟩; simp [noMark, str_beq]; grind
def eventOk (e : Event) : Bool := within e.clock 0 1000000000 && isID e.stand &&
  (if e.kind = 1 then markOk e.mark && decide (e.n = 0) else if e.kind = 2 then isID e.n && decide (e.mark = noMark) else if e.kind = 3 then within e.n 0 1000 && decide (e.mark = noMark) else false)
def orI (l : List Int) : Int := (l.find? fun x => decide (x ≠ 0)).getD 0
theorem orI_nil : orI [] = 0 := rfl
theorem orI_cons (x : Int) (l : List Int) : orI (x :: l) = if x = 0 then orI l else x := by simp only [orI, List.find?_cons]; split <;> simp_all
theorem drop_get {α : Type} {l : List α} {k : Nat} {x : α} (h : l[k]? = some x) : l.drop k = x :: l.drop (k + 1) := by
  obtain ⟨h1, h2⟩ := List.getElem?_eq_some_iff.1 h
  rw [List.drop_eq_getElem_cons h1, h2]
theorem ex_get {α : Type} {l : List α} {k : Nat} (h : k < l.length) : ∃ x, l[k]? = some x := ⟨l[k], List.getElem?_eq_getElem h⟩
/-- A rune. -/
structure Rune where
  n : Int
instance : Enc Rune := ⟨fun r => .int .i32 r.n, fun d => match d with | .int _ n => ⟨n⟩ | _ => ⟨0⟩, 1, fun _ => rfl, fun _ => rfl, by simp [D.cells, D.one]⟩
theorem enc_rune (r : Rune) : Enc.enc r = .int .i32 r.n := rfl
theorem size_rune : Enc.size Rune = 1 := rfl
theorem dec_rune (k : IntKind) (n : Int) : (Enc.dec (.int k n) : Rune) = ⟨n⟩ := rfl
theorem eta_rune (r : Rune) : Rune.mk r.n = r := rfl
def runes (s : ByteArray) : List Rune := (Conv.runesFrom s s.size 0 #[]).toList.map fun v => match v with | .int _ n => ⟨n⟩ | _ => ⟨0⟩
theorem runesD_eq (s : ByteArray) : runesD s = (runes s).map Enc.enc := by
  have h := runes_int s s.size 0 #[] (by simp)
  unfold runesD runes
  rw [List.map_map]
  refine List.map_congr_left fun v hv => ?_
  obtain ⟨n, rfl⟩ := h v hv
  rfl
theorem runes_length (s : ByteArray) : (runes s).length ≤ s.size := by
  have := size_runesFrom s s.size 0 #[]
  simpa [runes] using this
def oddRune (r : Rune) : Bool := decide (r.n < 32) || decide (126 < r.n)
def idxI {α : Type} (p : α → Bool) (l : List α) : Int := if l.any p then (l.findIdx p : Int) else -1
theorem take_get {α : Type} {l : List α} {k : Nat} {x : α} (h : l[k]? = some x) : l.take (k + 1) = l.take k ++ [x] := by
  rw [List.take_add_one, h]; rfl
theorem idxI_at {α : Type} {p : α → Bool} {l : List α} {k : Nat} {x : α} (h : (l.take k).any p = false) (hx : l[k]? = some x) (hp : p x = true) : idxI p l = k := by
  obtain ⟨hk, he⟩ := List.getElem?_eq_some_iff.1 hx
  have ha : l.any p = true := List.any_eq_true.2 ⟨x, List.mem_of_getElem? hx, hp⟩
  have : l.findIdx p = k := by
    rw [List.findIdx_eq hk]
    refine ⟨by rw [he]; exact hp, fun j hj => ?_⟩
    have := List.any_eq_false.1 h (l[j]'(by omega)) (List.mem_take_iff_getElem.2 ⟨j, by omega, rfl⟩)
    simpa using this
  rw [idxI, if_pos ha, this]
theorem idxI_end {α : Type} {p : α → Bool} {l : List α} {k : Nat} (h : (l.take k).any p = false) (hk : l.length ≤ k) : idxI p l = -1 := by
  rw [List.take_of_length_le hk] at h
  rw [idxI, if_neg (by rw [h]; simp)]
theorem idxI_any {α : Type} (p : α → Bool) (l : List α) : decide (0 ≤ idxI p l) = l.any p := by
  unfold idxI; split
  · rename_i h; rw [h]; simp
  · rename_i h; have h : l.any p = false := by simpa using h
    rw [h]; rfl
theorem any_take_succ {α : Type} {p : α → Bool} {l : List α} {k : Nat} {x : α} (hx : l[k]? = some x) : (l.take (k + 1)).any p = ((l.take k).any p || p x) := by rw [take_get hx]; simp
theorem all_take_succ {α : Type} {p : α → Bool} {l : List α} {k : Nat} {x : α} (hx : l[k]? = some x) : (l.take (k + 1)).all p = ((l.take k).all p && p x) := by rw [take_get hx]; simp
theorem all_false_of {α : Type} {p : α → Bool} {l : List α} {k : Nat} {x : α} (hx : l[k]? = some x) (hp : p x = false) : l.all p = false := by
  rw [List.all_eq_false]; exact ⟨x, List.mem_of_getElem? hx, by simp [hp]⟩
theorem all_take_end {α : Type} {p : α → Bool} {l : List α} {k : Nat} (hk : l.length ≤ k) : (l.take k).all p = l.all p := by rw [List.take_of_length_le hk]
def okV : Value → Prop
  | .int _ n => 32 ≤ n ∧ n ≤ 126
  | _ => False
theorem byteAt_get (s : ByteArray) (i : Nat) (h : i < s.size) : byteAt s i = ((s.get! i).toNat : Int) := by
  unfold byteAt
  have h1 : s[i]? = some s[i] := getElem?_pos s i h
  rw [h1]
  have : s.get! i = s[i] := by
    show s.data[i]! = s.data[i]
    exact getElem!_pos s.data i h
  rw [this]; rfl
theorem decode_small (s : ByteArray) (i : Nat) (h : (s.get! i).toNat < 128) : Utf8.decode s i = ((s.get! i).toNat, 1) := by
  unfold Utf8.decode
  simp [h]
theorem decode_big (s : ByteArray) (i : Nat) (h : 128 ≤ (s.get! i).toNat) : 128 ≤ (Utf8.decode s i).1 := by
  unfold Utf8.decode
  have h' : ¬ (s.get! i).toNat < 128 := by omega
  simp only [Nat.add_zero, h', if_false, Utf8.runeError]
  repeat' split
  all_goals simp_all
  all_goals omega
theorem runesFrom_ok (s : ByteArray) : ∀ (bound i : Nat) (acc : Array Value), s.size ≤ i + bound →
    ((∀ v ∈ (Conv.runesFrom s bound i acc).toList, okV v) ↔ (∀ v ∈ acc.toList, okV v) ∧ ∀ j, i ≤ j → j < s.size → 32 ≤ byteAt s j ∧ byteAt s j ≤ 126)
  | 0, i, acc, h => by
    simp only [Conv.runesFrom]
    exact ⟨fun q => ⟨q, fun j h1 h2 => by omega⟩, fun q => q.1⟩
  | bound + 1, i, acc, h => by
    unfold Conv.runesFrom
    by_cases hi : i < s.size
    · simp only [hi, if_true]
      rw [runesFrom_ok s bound _ _ (by
        by_cases hs : (s.get! i).toNat < 128
        · rw [decode_small s i hs]; simp; omega
        · have : 1 ≤ (Utf8.decode s i).2 := by
            unfold Utf8.decode
            simp only
            repeat' split
            all_goals simp
          omega)]
      by_cases hs : (s.get! i).toNat < 128
      · rw [decode_small s i hs]
        have hb := byteAt_get s i hi
        constructor
        · rintro ⟨q1, q2⟩
          refine ⟨fun v hv => q1 v (by simp at hv ⊢; exact .inl hv), fun j h1 h2 => ?_⟩
          rcases Nat.lt_or_ge i j with hj | hj
          · exact q2 j hj h2
          · have : j = i := by omega
            subst this
            have := q1 (.int .i32 (Int.ofNat (s.get! j).toNat)) (by simp)
            rw [hb]; exact this
        · rintro ⟨q1, q2⟩
          refine ⟨fun v hv => ?_, fun j h1 h2 => q2 j (by simp at h1; omega) h2⟩
          simp at hv
          rcases hv with hv | rfl
          · exact q1 v (by simpa using hv)
          · have := q2 i (Nat.le_refl _) hi
            rw [hb] at this; exact this
      · have h1 := decode_big s i (by omega)
        have hb := byteAt_get s i hi
        constructor
        · rintro ⟨q1, q2⟩
          have := q1 (.int .i32 (Int.ofNat (Utf8.decode s i).1)) (by simp)
          simp only [okV] at this
          have h2 := this.2
          simp only [Int.ofNat_eq_natCast] at h2
          omega
        · rintro ⟨q1, q2⟩
          have := q2 i (Nat.le_refl _) hi
          omega
    · simp only [hi, if_false]
      exact ⟨fun q => ⟨q, fun j h1 h2 => by omega⟩, fun q => q.1⟩
theorem textRunes (s : ByteArray) (h : s.size ≤ 200) : (runes s).any oddRune = !textOk s := by
  have hr := runesFrom_ok s s.size 0 #[] (by omega)
  have hint := runes_int s s.size 0 #[] (by simp)
  have h1 : (runes s).any oddRune = false ↔ ∀ v ∈ (Conv.runesFrom s s.size 0 #[]).toList, okV v := by
    rw [List.any_eq_false]
    unfold runes
    constructor
    · intro q v hv
      obtain ⟨n, rfl⟩ := hint v hv
      have := q ⟨n⟩ (List.mem_map.2 ⟨_, hv, rfl⟩)
      simp [oddRune] at this
      exact this
    · intro q r hr
      obtain ⟨v, hv, rfl⟩ := List.mem_map.1 hr
      obtain ⟨n, rfl⟩ := hint v hv
      have := q _ hv
      simp [oddRune]
      exact this
  have h2 : textOk s = true ↔ ∀ j, 0 ≤ j → j < s.size → 32 ≤ byteAt s j ∧ byteAt s j ≤ 126 := by
    unfold textOk
    simp only [h, decide_true, Bool.true_and, allUpTo, List.all_eq_true, List.mem_range, byteOk, Bool.and_eq_true, decide_eq_true_eq]
    exact ⟨fun q j _ hj => q j hj, fun q j hj => q j (by omega) hj⟩
  cases ht : textOk s with
  | true =>
    rw [Bool.not_true, h1, hr]
    exact ⟨by simp, fun j h3 h4 => h2.1 ht j h3 h4⟩
  | false =>
    rw [Bool.not_false]
    cases ha : (runes s).any oddRune with
    | true => rfl
    | false =>
      have := h2.2 (hr.1 (h1.1 ha)).2
      rw [ht] at this; cases this
theorem textOk_size {s : ByteArray} (h : textOk s = true) : s.size ≤ 200 := by
  simp only [textOk, Bool.and_eq_true, decide_eq_true_eq] at h; exact h.1
def wrongE (e : Event) : Bool := !eventOk e
def chain {α : Type} (r : α → α → Bool) : List α → Bool
  | [] => true
  | [_] => true
  | a :: b :: t => r a b && chain r (b :: t)
theorem chain_snoc {α : Type} (r : α → α → Bool) : ∀ (l : List α) (a b : α), chain r (l ++ [a] ++ [b]) = (chain r (l ++ [a]) && r a b)
  | [], a, b => by simp [chain]
  | [x], a, b => by simp [chain]
  | x :: y :: l, a, b => by
    have := chain_snoc r (y :: l) a b
    simp only [List.cons_append, chain] at this ⊢
    rw [this, Bool.and_assoc]
theorem chain_succ {α : Type} (r : α → α → Bool) {l : List α} {z : Nat} {q x : α} (hz : 0 < z) (hq : l[z - 1]? = some q) (hx : l[z]? = some x) : chain r (l.take (z + 1)) = (chain r (l.take z) && r q x) := by
  obtain ⟨k, rfl⟩ : ∃ k, z = k + 1 := ⟨z - 1, by omega⟩
  rw [take_get hx, take_get (k := k) (by simpa using hq), chain_snoc]
theorem chain_first {α : Type} (r : α → α → Bool) {l : List α} {z : Nat} (hz : ¬ 0 < z) : chain r (l.take (z + 1)) = true := by
  have : z = 0 := by omega
  subst this
  rcases l with _ | ⟨a, l⟩ <;> simp [chain]
theorem chain_app {α : Type} (r : α → α → Bool) : ∀ (l m : List α), chain r (l ++ m) = true → chain r l = true
  | [], _, _ => rfl
  | [x], _, _ => rfl
  | x :: y :: l, m, h => by
    simp only [List.cons_append, chain, Bool.and_eq_true] at h ⊢
    exact ⟨h.1, chain_app r (y :: l) m h.2⟩
theorem chain_bad {α : Type} (r : α → α → Bool) {l : List α} {z : Nat} {q x : α} (hz : 0 < z) (hq : l[z - 1]? = some q) (hx : l[z]? = some x) (hr : r q x = false) : chain r l = false := by
  have h := chain_succ r hz hq hx
  rw [hr, Bool.and_false] at h
  cases hc : chain r l with
  | false => rfl
  | true =>
    have := chain_app r (l.take (z + 1)) (l.drop (z + 1)) (by rw [List.take_append_drop]; exact hc)
    rw [h] at this; cases this
theorem chain_end {α : Type} (r : α → α → Bool) {l : List α} {z : Nat} (h : l.length ≤ z) : chain r (l.take z) = chain r l := by rw [List.take_of_length_le h]
def validE (l : List Event) : Bool := l.all eventOk && decide (l.length ≤ 20000) && chain before l
theorem prev_ex {α : Type} {l : List α} {z : Nat} (h : z ≤ l.length) : (¬ 0 < z) ∨ (0 < z ∧ ∃ q, l[z - 1]? = some q) := by
  by_cases hz : 0 < z
  · exact .inr ⟨hz, ex_get (by omega)⟩
  · exact .inl hz
theorem prev_enc {α : Type} [Enc α] {l : List α} {z : Nat} {q : α} (hz : 0 < z) (hq : l[z - 1]? = some q) : elAt (l.map Enc.enc) ((z : Int) - 1).toNat = Enc.enc q := by
  rw [show ((z : Int) - 1).toNat = z - 1 by omega]; exact elAt_enc hq
theorem order_before (a b : Event) : decide (0 ≤ order a b) = !before a b := by
  simp only [order, before, compare]; grind
theorem take_eq_succ {α : Type} {a b : List α} {z : Nat} {x y : α} (h : a.take z = b.take z) (hx : a[z]? = some x) (hy : b[z]? = some y) : a.take (z + 1) = b.take (z + 1) ↔ x = y := by
  rw [take_get hx, take_get hy, h]; simp
theorem take_eq_end {α : Type} {a b : List α} {z : Nat} (h : a.take z = b.take z) (ha : a.length ≤ z) (hl : a.length = b.length) : a = b := by
  rw [List.take_of_length_le ha, List.take_of_length_le (by omega)] at h; exact h
theorem ne_of_get {α : Type} {a b : List α} {z : Nat} {x y : α} (hx : a[z]? = some x) (hy : b[z]? = some y) (h : x ≠ y) : a ≠ b := by
  rintro rfl; rw [hx] at hy; exact h (Option.some.inj hy)
def known (s : Int) (l : List Event) : Int := l.foldl (fun m e => if e.kind = 3 ∧ e.stand = s then max m e.n else m) 0
theorem known_succ (s : Int) {l : List Event} {k : Nat} {x : Event} (hx : l[k]? = some x) : known s (l.take (k + 1)) = if x.kind = 3 ∧ x.stand = s then max (known s (l.take k)) x.n else known s (l.take k) := by
  rw [take_get hx]; simp [known]
theorem known_end (s : Int) {l : List Event} {k : Nat} (h : l.length ≤ k) : known s (l.take k) = known s l := by rw [List.take_of_length_le h]
def knownR (l : List Event) (s : Int) : Int × Int := if validE l && isID s then (known s l, 0) else (0, 1)
def putFrom (e : Event) (l : List Event) : Nat → Nat
  | 0 => 0
  | z + 1 => match l[z]? with
    | some q => if before e q then putFrom e l z else z + 1
    | none => z + 1
def put (l : List Event) (e : Event) : List Event :=
  if 0 < putFrom e l l.length ∧ l[putFrom e l l.length - 1]? = some e then l else l.take (putFrom e l l.length) ++ [e] ++ l.drop (putFrom e l l.length)
theorem putFrom_pos {e : Event} {l : List Event} {z : Nat} {q : Event} (hz : 0 < z) (hq : l[z - 1]? = some q) : putFrom e l z = if before e q then putFrom e l (z - 1) else z := by
  obtain ⟨k, rfl⟩ : ∃ k, z = k + 1 := ⟨z - 1, by omega⟩
  simp only [Nat.add_sub_cancel] at hq ⊢
  simp [putFrom, hq]
theorem put_zero {e : Event} {l : List Event} {z : Nat} (h : putFrom e l z = putFrom e l l.length) (hz : ¬ 0 < z) : put l e = l.take z ++ [e] ++ l.drop z := by
  have : z = 0 := by omega
  subst this
  have h : putFrom e l l.length = 0 := by rw [← h]; rfl
  simp [put, h]
theorem put_pos {e : Event} {l : List Event} {z : Nat} {q : Event} (h : putFrom e l z = putFrom e l l.length) (hz : 0 < z) (hq : l[z - 1]? = some q) (hb : before e q = false) : put l e = if q = e then l else l.take z ++ [e] ++ l.drop z := by
  have h1 : putFrom e l l.length = z := by rw [← h, putFrom_pos hz hq, if_neg (by rw [hb]; simp)]
  simp [put, h1, hz, hq]
theorem put_step {e : Event} {l : List Event} {z : Nat} {q : Event} (h : putFrom e l z = putFrom e l l.length) (hz : 0 < z) (hq : l[z - 1]? = some q) (hb : before e q = true) : putFrom e l (z - 1) = putFrom e l l.length := by
  rw [← h, putFrom_pos hz hq, if_pos hb]
theorem put_length (l : List Event) (e : Event) : (put l e).length ≤ l.length + 1 := by
  unfold put; split
  · omega
  · simp [List.length_take]; omega
theorem put_length' (l : List Event) (e : Event) : l.length ≤ (put l e).length := by
  unfold put; split
  · omega
  · simp [List.length_take]; omega
def made (c s v : Int) : Event := ⟨c, s, 1, 0, ⟨8, 4, 4, ⟨0, 0, 0⟩, 1, 5, v, ⟨#[]⟩⟩⟩
end Go.Proofs.Ytpbhcpeilgmkeaa

/-
  Walks of the events: printed by gen1.py.
-/
namespace Go.Proofs.Ytpbhcpeilgmkeaa
open Go Go.Eva Enc
variable [Drw]
set_option linter.unusedSectionVars false
set_option linter.unusedSimpArgs false
set_option linter.unusedVariables false
set_option maxRecDepth 4000
attribute [local congr] AWp.congrS
attribute [local simp] evalSeq opRes guardPc evalOp evT Eva.get startT strip putT Eva.after constT typed obAll holds dstOk R.ok R.bad ofD binD unD pickT subL subP Op.operands Call.operands toD argsD callD callT typedAll cfind quietT spec0 spec1 spec2 spec3 enc_int enc_bool enc_str enc_fn enc_list dec_int dec_bool dec_str dec_fn dec_list size_int size_str enc_R enc_M enc_E dec_R dec_M dec_E size_R size_M size_E eta_R eta_M eta_E enc_rune size_rune dec_rune eta_rune runesD_eq map_dec_enc map_dec_comp cellsT D.cells T.oneT D.one mkT unD1 setAt loadAs loadEl storeAs fieldP fieldV sizeE intOfT indexP appendT lenT sliceT elemSize arith lfsOk lfOk beqL_R beqL_M beqL_E beqL_R0 beqL_M0 isAggD mkD fillD placeS TD.agg env restr List.map keyIdx keysInt mapTy lookT mapPutT mapDelT mapOf indexS convT evalPure range1 range2 range3 range4 eqT4 eqT38 eqT40 eqT42 te1 te2 te3 te4 te5 te6 te7 te8 te9 te10 te11 te12 te13 te14 te15 te16 te17 te18 te19 te21 te22 te23 te24 te25 te27 te28 te29 te31 te32 te34 te35 te36 te37 te38 te39 te40 te41 te42 te43 te44 te45 te46 te47 te49 te50 te51 te52 te53 te54 te55 te56 te57 te59 te60 te61 te62 te63 te64 te65 te66 te67 te68 te69 te70 te71 te72 te73 te74 te75 te76 te77 te78 te79 te80 te82 te83 te84 te85 te86 te87 te88 te90 te91 te92 te94 te95 te96 te97 te98 te99 te100 te101 te102 te103 te104 te105 te106 te107 te108 te109 te110 te111 te112 te113 te114 te116 te117 te118 te119 te120 te121 te122 te123 te124 te125 te126 te127 te128 te129 te130 te131 te132 te133 te134

def sp46 : Eva.Spec := spec3 (fun (a : Int) (lo : Int) (hi : Int) => True) fun (a : Int) (lo : Int) (hi : Int) => enc (within a lo hi)
theorem ok46 : SpecOk Try.prog 46 sp46 := by
  have hV : VOk Try.prog (env []) := env_ok trivial
  refine SpecOk.of3 (Enters.of Try.func46 (by decide)) fun a lo hi hp => ?_
  refine PureCon.of hV Try.func46 rfl (by rw [Try.ntmps46]; simp) fun w0 I0 => ?_
  rw [Try.ntmps46]
  refine AWp.seqKL hV [0, 1, 2] ?_
  simp
  repeat refine And.intro (by first | omega | grind) ?_
  refine AWp.seqKL hV [6] ?_
  simp
  repeat refine And.intro (by first | omega | grind) ?_
  refine AWp.ret ?_
  simp [retOk, resT, thenQ, inBlockQ, within, *]
  all_goals first | omega | grind

def sp42 : Eva.Spec := spec3 (fun (a : Int) (lo : Int) (hi : Int) => True) fun (a : Int) (lo : Int) (hi : Int) => enc (within a lo hi)
theorem ok42 : SpecOk Try.prog 42 sp42 := by
  have hV : VOk Try.prog (env []) := env_ok trivial
  refine SpecOk.of3 (Enters.of Try.func42 (by decide)) fun a lo hi hp => ?_
  refine PureCon.of hV Try.func42 rfl (by rw [Try.ntmps42]; simp) fun w0 I0 => ?_
  rw [Try.ntmps42]
  refine AWp.seqKL hV [0, 1, 2] ?_
  simp
  repeat refine And.intro (by first | omega | grind) ?_
  refine AWp.seqKL hV [6] ?_
  simp
  repeat refine And.intro (by first | omega | grind) ?_
  refine AWp.ret ?_
  simp [retOk, resT, thenQ, inBlockQ, within, *]
  all_goals first | omega | grind

def sp60 : Eva.Spec := spec3 (fun (a : Int) (lo : Int) (hi : Int) => True) fun (a : Int) (lo : Int) (hi : Int) => enc (within a lo hi)
theorem ok60 : SpecOk Try.prog 60 sp60 := by
  have hV : VOk Try.prog (env []) := env_ok trivial
  refine SpecOk.of3 (Enters.of Try.func60 (by decide)) fun a lo hi hp => ?_
  refine PureCon.of hV Try.func60 rfl (by rw [Try.ntmps60]; simp) fun w0 I0 => ?_
  rw [Try.ntmps60]
  refine AWp.seqKL hV [0, 1, 2] ?_
  simp
  repeat refine And.intro (by first | omega | grind) ?_
  refine AWp.seqKL hV [6] ?_
  simp
  repeat refine And.intro (by first | omega | grind) ?_
  refine AWp.ret ?_
  simp [retOk, resT, thenQ, inBlockQ, within, *]
  all_goals first | omega | grind

def sp55 : Eva.Spec := spec3 (fun (a : Int) (lo : Int) (hi : Int) => True) fun (a : Int) (lo : Int) (hi : Int) => enc (within a lo hi)
theorem ok55 : SpecOk Try.prog 55 sp55 := by
  have hV : VOk Try.prog (env []) := env_ok trivial
  refine SpecOk.of3 (Enters.of Try.func55 (by decide)) fun a lo hi hp => ?_
  refine PureCon.of hV Try.func55 rfl (by rw [Try.ntmps55]; simp) fun w0 I0 => ?_
  rw [Try.ntmps55]
  refine AWp.seqKL hV [0, 1, 2] ?_
  simp
  repeat refine And.intro (by first | omega | grind) ?_
  refine AWp.seqKL hV [6] ?_
  simp
  repeat refine And.intro (by first | omega | grind) ?_
  refine AWp.ret ?_
  simp [retOk, resT, thenQ, inBlockQ, within, *]
  all_goals first | omega | grind

def sp40 : Eva.Spec := spec1 (fun (a : Int) => True) fun (a : Int) => enc (isID a)
theorem ok40 : SpecOk Try.prog 40 sp40 := by
  have hV : VOk Try.prog (env [(46, sp46)]) := env_ok ⟨ok46, trivial⟩
  refine SpecOk.of1 (Enters.of Try.func40 (by decide)) fun a hp => ?_
  refine PureCon.of hV Try.func40 rfl (by rw [Try.ntmps40]; simp) fun w0 I0 => ?_
  rw [Try.ntmps40]
  refine AWp.seqKL hV [0] ?_
  simp [sp46]
  repeat refine And.intro (by first | omega | grind) ?_
  refine AWp.seqKL hV [2] ?_
  simp [sp46]
  repeat refine And.intro (by first | omega | grind) ?_
  refine AWp.ret ?_
  simp [retOk, resT, thenQ, inBlockQ, isID, *]
  all_goals first | omega | grind

def sp59 : Eva.Spec := spec1 (fun (a : Int) => True) fun (a : Int) => enc (isID a)
theorem ok59 : SpecOk Try.prog 59 sp59 := by
  have hV : VOk Try.prog (env [(60, sp60)]) := env_ok ⟨ok60, trivial⟩
  refine SpecOk.of1 (Enters.of Try.func59 (by decide)) fun a hp => ?_
  refine PureCon.of hV Try.func59 rfl (by rw [Try.ntmps59]; simp) fun w0 I0 => ?_
  rw [Try.ntmps59]
  refine AWp.seqKL hV [0] ?_
  simp [sp60]
  repeat refine And.intro (by first | omega | grind) ?_
  refine AWp.seqKL hV [2] ?_
  simp [sp60]
  repeat refine And.intro (by first | omega | grind) ?_
  refine AWp.ret ?_
  simp [retOk, resT, thenQ, inBlockQ, isID, *]
  all_goals first | omega | grind

def sp23 : Eva.Spec := spec1 (fun (a : Int) => True) fun (a : Int) => enc (isID a)
theorem ok23 : SpecOk Try.prog 23 sp23 := by
  have hV : VOk Try.prog (env [(42, sp42)]) := env_ok ⟨ok42, trivial⟩
  refine SpecOk.of1 (Enters.of Try.func23 (by decide)) fun a hp => ?_
  refine PureCon.of hV Try.func23 rfl (by rw [Try.ntmps23]; simp) fun w0 I0 => ?_
  rw [Try.ntmps23]
  refine AWp.seqKL hV [0] ?_
  simp [sp42]
  repeat refine And.intro (by first | omega | grind) ?_
  refine AWp.seqKL hV [2] ?_
  simp [sp42]
  repeat refine And.intro (by first | omega | grind) ?_
  refine AWp.ret ?_
  simp [retOk, resT, thenQ, inBlockQ, isID, *]
  all_goals first | omega | grind

def sp56 : Eva.Spec := spec1 (fun (r : Reader) => True) fun (r : Reader) => enc (isReader r)
theorem ok56 : SpecOk Try.prog 56 sp56 := by
  have hV : VOk Try.prog (env [(23, sp23), (42, sp42)]) := env_ok ⟨ok23, ok42, trivial⟩
  refine SpecOk.of1 (Enters.of Try.func56 (by decide)) fun r hp => ?_
  refine PureCon.of hV Try.func56 rfl (by rw [Try.ntmps56]; simp) fun w0 I0 => ?_
  rw [Try.ntmps56]
  refine AWp.seqKL hV [1] ?_
  simp [sp23, sp42]
  repeat refine And.intro (by first | omega | grind) ?_
  refine AWp.seqKL hV [2] ?_
  simp [sp23, sp42]
  repeat refine And.intro (by first | omega | grind) ?_
  refine AWp.ret ?_
  simp [retOk, resT, thenQ, inBlockQ, isReader, *]
  all_goals first | omega | grind

def sp75 : Eva.Spec := spec1 (fun (r : Reader) => True) fun (r : Reader) => enc (isReader r)
theorem ok75 : SpecOk Try.prog 75 sp75 := by
  have hV : VOk Try.prog (env [(59, sp59), (60, sp60)]) := env_ok ⟨ok59, ok60, trivial⟩
  refine SpecOk.of1 (Enters.of Try.func75 (by decide)) fun r hp => ?_
  refine PureCon.of hV Try.func75 rfl (by rw [Try.ntmps75]; simp) fun w0 I0 => ?_
  rw [Try.ntmps75]
  refine AWp.seqKL hV [1] ?_
  simp [sp59, sp60]
  repeat refine And.intro (by first | omega | grind) ?_
  refine AWp.seqKL hV [2] ?_
  simp [sp59, sp60]
  repeat refine And.intro (by first | omega | grind) ?_
  refine AWp.ret ?_
  simp [retOk, resT, thenQ, inBlockQ, isReader, *]
  all_goals first | omega | grind

def sp72 : Eva.Spec := spec1 (fun (a : Int) => True) fun (a : Int) => enc false
theorem ok72 : SpecOk Try.prog 72 sp72 := by
  have hV : VOk Try.prog (env []) := env_ok trivial
  refine SpecOk.of1 (Enters.of Try.func72 (by decide)) fun a hp => ?_
  refine PureCon.of hV Try.func72 rfl (by rw [Try.ntmps72]; simp) fun w0 I0 => ?_
  rw [Try.ntmps72]
  refine AWp.seqKL hV [0] ?_
  simp
  repeat refine And.intro (by first | omega | grind) ?_
  refine AWp.seqKL hV [2] ?_
  simp
  repeat refine And.intro (by first | omega | grind) ?_
  refine AWp.ret ?_
  simp [retOk, resT, thenQ, inBlockQ, *]
  all_goals first | omega | grind

def sp51 : Eva.Spec := spec2 (fun (a : Int) (b : Int) => True) fun (a : Int) (b : Int) => enc (compare a b)
theorem ok51 : SpecOk Try.prog 51 sp51 := by
  have hV : VOk Try.prog (env [(72, sp72)]) := env_ok ⟨ok72, trivial⟩
  refine SpecOk.of2 (Enters.of Try.func51 (by decide)) fun a b hp => ?_
  refine PureCon.of hV Try.func51 rfl (by rw [Try.ntmps51]; simp) fun w0 I0 => ?_
  rw [Try.ntmps51]
  refine AWp.seqKL hV [0, 1] ?_
  simp [sp72]
  repeat refine And.intro (by first | omega | grind) ?_
  refine AWp.seqKL hV [0, 1, 5] ?_
  simp [sp72]
  repeat refine And.intro (by first | omega | grind) ?_
  refine AWp.seqKL hV [0, 1, 5, 6] ?_
  simp [sp72]
  repeat refine And.intro (by first | omega | grind) ?_
  refine AWp.seq ?_
  refine AWp.seqKL hV [0, 1, 6, 11] ?_
  simp [sp72]
  repeat refine And.intro (by first | omega | grind) ?_
  refine AWp.cond rfl (fun h1 => ?_) fun h1 => ?_
  · simp at h1
  · try simp at h1
    refine AWp.skip ?_
    try simp only [thenQ, inBlockQ]
    refine AWp.seq ?_
    refine AWp.seqKL hV [0, 1, 13] ?_
    simp [sp72]
    repeat refine And.intro (by first | omega | grind) ?_
    refine AWp.cond rfl (fun h2 => ?_) fun h2 => ?_
    · simp at h2
    · try simp at h2
      refine AWp.skip ?_
      try simp only [thenQ, inBlockQ]
      refine AWp.seq ?_
      refine AWp.seqKL hV [0, 1, 16] ?_
      simp [sp72]
      repeat refine And.intro (by first | omega | grind) ?_
      refine AWp.cond rfl (fun h3 => ?_) fun h3 => ?_
      · try simp at h3
        refine AWp.seqKL hV [4] ?_
        simp [sp72]
        repeat refine And.intro (by first | omega | grind) ?_
        refine AWp.ret ?_
        simp [retOk, resT, thenQ, inBlockQ, compare, *]
        all_goals first | omega | grind
      · try simp at h3
        refine AWp.skip ?_
        try simp only [thenQ, inBlockQ]
        refine AWp.seq ?_
        refine AWp.seqKL hV [19] ?_
        simp [sp72]
        repeat refine And.intro (by first | omega | grind) ?_
        refine AWp.cond rfl (fun h4 => ?_) fun h4 => ?_
        · try simp at h4
          refine AWp.seqKL hV [4] ?_
          simp [sp72]
          repeat refine And.intro (by first | omega | grind) ?_
          refine AWp.ret ?_
          simp [retOk, resT, thenQ, inBlockQ, compare, *]
          all_goals first | omega | grind
        · try simp at h4
          refine AWp.skip ?_
          try simp only [thenQ, inBlockQ]
          refine AWp.seqKL hV [4] ?_
          simp [sp72]
          repeat refine And.intro (by first | omega | grind) ?_
          refine AWp.ret ?_
          simp [retOk, resT, thenQ, inBlockQ, compare, *]
          all_goals first | omega | grind

def sp37 : Eva.Spec := spec2 (fun (a : Event) (b : Event) => True) fun (a : Event) (b : Event) => enc (before a b)
theorem ok37 : SpecOk Try.prog 37 sp37 := by
  have hV : VOk Try.prog (env []) := env_ok trivial
  refine SpecOk.of2 (Enters.of Try.func37 (by decide)) fun a b hp => ?_
  refine PureCon.of hV Try.func37 rfl (by rw [Try.ntmps37]; simp) fun w0 I0 => ?_
  rw [Try.ntmps37]
  refine AWp.seqKL hV [2, 3] ?_
  simp
  repeat refine And.intro (by first | omega | grind) ?_
  refine AWp.seqKL hV [4] ?_
  simp
  repeat refine And.intro (by first | omega | grind) ?_
  refine AWp.ret ?_
  simp [retOk, resT, thenQ, inBlockQ, before, *]
  all_goals first | omega | grind

def sp35 : Eva.Spec := spec2 (fun (a : Event) (b : Event) => True) fun (a : Event) (b : Event) => enc (forks a b)
theorem ok35 : SpecOk Try.prog 35 sp35 := by
  have hV : VOk Try.prog (env []) := env_ok trivial
  refine SpecOk.of2 (Enters.of Try.func35 (by decide)) fun a b hp => ?_
  refine PureCon.of hV Try.func35 rfl (by rw [Try.ntmps35]; simp) fun w0 I0 => ?_
  rw [Try.ntmps35]
  refine AWp.seqKL hV [2, 3] ?_
  simp
  repeat refine And.intro (by first | omega | grind) ?_
  refine AWp.seqKL hV [4] ?_
  simp
  repeat refine And.intro (by first | omega | grind) ?_
  refine AWp.ret ?_
  simp [retOk, resT, thenQ, inBlockQ, forks, *]
  all_goals first | omega | grind

def sp22 : Eva.Spec := spec1 (fun (a : Event) => True) fun (a : Event) => enc (about a)
theorem ok22 : SpecOk Try.prog 22 sp22 := by
  have hV : VOk Try.prog (env []) := env_ok trivial
  refine SpecOk.of1 (Enters.of Try.func22 (by decide)) fun a hp => ?_
  refine PureCon.of hV Try.func22 rfl (by rw [Try.ntmps22]; simp) fun w0 I0 => ?_
  rw [Try.ntmps22]
  refine AWp.seqKL hV [1] ?_
  simp
  repeat refine And.intro (by first | omega | grind) ?_
  refine AWp.seq ?_
  refine AWp.seqKL hV [1, 5] ?_
  simp
  repeat refine And.intro (by first | omega | grind) ?_
  refine AWp.cond rfl (fun h1 => ?_) fun h1 => ?_
  · try simp at h1
    refine AWp.seqKL hV [2] ?_
    simp
    repeat refine And.intro (by first | omega | grind) ?_
    refine AWp.ret ?_
    simp [retOk, resT, thenQ, inBlockQ, about, *]
    all_goals first | omega | grind
  · try simp at h1
    refine AWp.skip ?_
    try simp only [thenQ, inBlockQ]
    refine AWp.seq ?_
    refine AWp.seqKL hV [1, 11] ?_
    simp
    repeat refine And.intro (by first | omega | grind) ?_
    refine AWp.cond rfl (fun h2 => ?_) fun h2 => ?_
    · try simp at h2
      refine AWp.seqKL hV [2] ?_
      simp
      repeat refine And.intro (by first | omega | grind) ?_
      refine AWp.ret ?_
      simp [retOk, resT, thenQ, inBlockQ, about, *]
      all_goals first | omega | grind
    · try simp at h2
      refine AWp.skip ?_
      try simp only [thenQ, inBlockQ]
      refine AWp.seqKL hV [2] ?_
      simp
      repeat refine And.intro (by first | omega | grind) ?_
      refine AWp.ret ?_
      simp [retOk, resT, thenQ, inBlockQ, about, *]
      all_goals first | omega | grind

def sp10 : Eva.Spec := spec1 (fun (l : List Event) => True) fun (l : List Event) => enc (decide (l.length ≤ 60))
theorem ok10 : SpecOk Try.prog 10 sp10 := by
  have hV : VOk Try.prog (env []) := env_ok trivial
  refine SpecOk.of1 (Enters.of Try.func10 (by decide)) fun l hp => ?_
  refine PureCon.of hV Try.func10 rfl (by rw [Try.ntmps10]; simp) fun w0 I0 => ?_
  rw [Try.ntmps10]
  refine AWp.seqKL hV [0] ?_
  simp
  repeat refine And.intro (by first | omega | grind) ?_
  refine AWp.seqKL hV [2] ?_
  simp
  repeat refine And.intro (by first | omega | grind) ?_
  refine AWp.ret ?_
  simp [retOk, resT, thenQ, inBlockQ, *]
  all_goals first | omega | grind
end Go.Proofs.Ytpbhcpeilgmkeaa

/-
  Walks of the events: printed by gen1.py.
-/
namespace Go.Proofs.Ytpbhcpeilgmkeaa
open Go Go.Eva Enc
variable [Drw]
set_option linter.unusedSectionVars false
set_option linter.unusedSimpArgs false
set_option linter.unusedVariables false
set_option maxRecDepth 4000
attribute [local congr] AWp.congrS
attribute [local simp] evalSeq opRes guardPc evalOp evT Eva.get startT strip putT Eva.after constT typed obAll holds dstOk R.ok R.bad ofD binD unD pickT subL subP Op.operands Call.operands toD argsD callD callT typedAll cfind quietT spec0 spec1 spec2 spec3 enc_int enc_bool enc_str enc_fn enc_list dec_int dec_bool dec_str dec_fn dec_list size_int size_str enc_R enc_M enc_E dec_R dec_M dec_E size_R size_M size_E eta_R eta_M eta_E enc_rune size_rune dec_rune eta_rune runesD_eq map_dec_enc map_dec_comp cellsT D.cells T.oneT D.one mkT unD1 setAt loadAs loadEl storeAs fieldP fieldV sizeE intOfT indexP appendT lenT sliceT elemSize arith lfsOk lfOk beqL_R beqL_M beqL_E beqL_R0 beqL_M0 isAggD mkD fillD placeS TD.agg env restr List.map keyIdx keysInt mapTy lookT mapPutT mapDelT mapOf indexS convT evalPure range1 range2 range3 range4 eqT4 eqT38 eqT40 eqT42 te1 te2 te3 te4 te5 te6 te7 te8 te9 te10 te11 te12 te13 te14 te15 te16 te17 te18 te19 te21 te22 te23 te24 te25 te27 te28 te29 te31 te32 te34 te35 te36 te37 te38 te39 te40 te41 te42 te43 te44 te45 te46 te47 te49 te50 te51 te52 te53 te54 te55 te56 te57 te59 te60 te61 te62 te63 te64 te65 te66 te67 te68 te69 te70 te71 te72 te73 te74 te75 te76 te77 te78 te79 te80 te82 te83 te84 te85 te86 te87 te88 te90 te91 te92 te94 te95 te96 te97 te98 te99 te100 te101 te102 te103 te104 te105 te106 te107 te108 te109 te110 te111 te112 te113 te114 te116 te117 te118 te119 te120 te121 te122 te123 te124 te125 te126 te127 te128 te129 te130 te131 te132 te133 te134

def sp43 : Eva.Spec := spec1 (fun (s : ByteArray) => True) fun (s : ByteArray) => enc (textOk s)
theorem ok43 : SpecOk Try.prog 43 sp43 := by
  have hV : VOk Try.prog (env []) := env_ok trivial
  refine SpecOk.of1 (Enters.of Try.func43 (by decide)) fun s hp => ?_
  refine PureCon.of hV Try.func43 rfl (by rw [Try.ntmps43]; simp) fun w0 I0 => ?_
  rw [Try.ntmps43]
  refine AWp.seqKL hV [0] ?_
  simp
  repeat refine And.intro (by first | omega | grind) ?_
  refine AWp.seq ?_
  refine AWp.seqKL hV [0, 6] ?_
  simp
  repeat refine And.intro (by first | omega | grind) ?_
  refine AWp.cond rfl (fun h1 => ?_) fun h1 => ?_
  · try simp at h1
    refine AWp.seqKL hV [2] ?_
    simp
    repeat refine And.intro (by first | omega | grind) ?_
    refine AWp.ret ?_
    simp [retOk, resT, thenQ, inBlockQ, textOk, *]
    all_goals first | omega | grind
  · try simp at h1
    refine AWp.skip ?_
    try simp only [thenQ, inBlockQ]
    refine AWp.seq ?_
    refine AWp.seqKL hV [0, 3] ?_
    simp
    repeat refine And.intro (by first | omega | grind) ?_
    refine AWp.block ?_
    refine AWp.loop (X := Nat) (fun z => ⟨[(0, .d (.str s)), (3, .d (.int .i64 (z : Int)))], []⟩) (fun z => z ≤ s.size ∧ allUpTo s z = true) (fun z => s.size - z) (0) ?_ ?_ fun z hz => ?_
    · simp [allUpTo_zero]
    · refine Sub.ren [] (by decide) ?_ ?_ <;> simp [renL, AO.ren, forgetsR, T.ren, idx]
    refine AWp.seq ?_
    refine AWp.seqKL hV [0, 3, 10] ?_
    simp
    repeat refine And.intro (by first | omega | grind) ?_
    refine AWp.cond rfl (fun h2 => ?_) fun h2 => ?_
    · try simp at h2
      refine AWp.skip ?_
      try simp only [thenQ, inBlockQ]
      refine AWp.seq ?_
      refine AWp.block ?_
      refine AWp.seqKL hV [0, 3, 22] ?_
      simp
      repeat refine And.intro (by first | omega | grind) ?_
      refine AWp.cond rfl (fun h3 => ?_) fun h3 => ?_
      · try simp at h3
        have hb := fun hh => allUpTo_lt (s := s) (k := z) (n := s.size) hh h2
        refine AWp.seqKL hV [2] ?_
        simp
        repeat refine And.intro (by first | omega | grind) ?_
        refine AWp.ret ?_
        simp [retOk, resT, thenQ, inBlockQ, textOk, *]
        all_goals first | omega | grind
      · try simp at h3
        refine AWp.skip ?_
        try simp only [thenQ, inBlockQ]
        refine AWp.region hV ?_
        simp
        repeat refine And.intro (by first | omega | grind) ?_
        try simp only [thenQ, inBlockQ]
        refine ⟨z + 1, ?_, ?_, Sub.ren [] (by decide) ?_ ?_⟩
        · simp [allUpTo_succ, byteOk, *]; omega
        · first | omega | grind
        · simp [renL, AO.ren, T.ren, idx]
        · simp [forgetsR, T.ren, idx] <;> omega
    · try simp at h2
      refine AWp.exit ?_
      simp [thenQ, inBlockQ]
      try simp only [thenQ, inBlockQ]
      refine AWp.seqKL hV [2] ?_
      simp
      repeat refine And.intro (by first | omega | grind) ?_
      refine AWp.ret ?_
      simp [retOk, resT, thenQ, inBlockQ, textOk, *]
      all_goals first | omega | grind

def sp44 : Eva.Spec := spec2 (fun (a : Int) (r : Reader) => True) fun (a : Int) (r : Reader) => enc (byOk a r)
theorem ok44 : SpecOk Try.prog 44 sp44 := by
  have hV : VOk Try.prog (env [(56, sp56), (23, sp23), (42, sp42)]) := env_ok ⟨ok56, ok23, ok42, trivial⟩
  refine SpecOk.of2 (Enters.of Try.func44 (by decide)) fun a r hp => ?_
  refine PureCon.of hV Try.func44 rfl (by rw [Try.ntmps44]; simp) fun w0 I0 => ?_
  rw [Try.ntmps44]
  refine AWp.seqKL hV [0, 3] ?_
  simp [sp56, sp23, sp42]
  repeat refine And.intro (by first | omega | grind) ?_
  refine AWp.seq ?_
  refine AWp.seqKL hV [3, 5] ?_
  simp [sp56, sp23, sp42]
  repeat refine And.intro (by first | omega | grind) ?_
  refine AWp.block ?_
  refine AWp.seqKL hV [3, 5, 6] ?_
  simp [sp56, sp23, sp42]
  repeat refine And.intro (by first | omega | grind) ?_
  refine AWp.cond rfl (fun h1 => ?_) fun h1 => ?_
  · try simp at h1
    refine AWp.seqKL hV [4] ?_
    simp [sp56, sp23, sp42]
    repeat refine And.intro (by first | omega | grind) ?_
    refine AWp.ret ?_
    simp [retOk, resT, thenQ, inBlockQ, byOk, *]
    all_goals first | omega | grind
  · try simp at h1
    refine AWp.seqKL hV [3, 5, 10] ?_
    simp [sp56, sp23, sp42]
    repeat refine And.intro (by first | omega | grind) ?_
    refine AWp.cond rfl (fun h2 => ?_) fun h2 => ?_
    · try simp at h2
      refine AWp.seqKL hV [4] ?_
      simp [sp56, sp23, sp42]
      repeat refine And.intro (by first | omega | grind) ?_
      refine AWp.ret ?_
      simp [retOk, resT, thenQ, inBlockQ, byOk, *]
      all_goals first | omega | grind
    · try simp at h2
      refine AWp.seqKL hV [3, 5, 25] ?_
      simp [sp56, sp23, sp42]
      repeat refine And.intro (by first | omega | grind) ?_
      refine AWp.cond rfl (fun h3 => ?_) fun h3 => ?_
      · try simp at h3
        refine AWp.seqKL hV [4] ?_
        simp [sp56, sp23, sp42]
        repeat refine And.intro (by first | omega | grind) ?_
        refine AWp.ret ?_
        simp [retOk, resT, thenQ, inBlockQ, byOk, *]
        all_goals first | omega | grind
      · try simp at h3
        refine AWp.seqKL hV [3, 40] ?_
        simp [sp56, sp23, sp42]
        repeat refine And.intro (by first | omega | grind) ?_
        refine AWp.cond rfl (fun h4 => ?_) fun h4 => ?_
        · try simp at h4
          refine AWp.seqKL hV [4] ?_
          simp [sp56, sp23, sp42]
          repeat refine And.intro (by first | omega | grind) ?_
          refine AWp.ret ?_
          simp [retOk, resT, thenQ, inBlockQ, byOk, *]
          all_goals first | omega | grind
        · try simp at h4
          refine AWp.skip ?_
          try simp only [thenQ, inBlockQ]
          refine AWp.seqKL hV [4] ?_
          simp [sp56, sp23, sp42]
          repeat refine And.intro (by first | omega | grind) ?_
          refine AWp.ret ?_
          simp [retOk, resT, thenQ, inBlockQ, byOk, *]
          all_goals first | omega | grind

def sp50 : Eva.Spec := spec1 (fun (l : List Int) => l.length ≤ 1000000000) fun (l : List Int) => enc (orI l)
theorem ok50 : SpecOk Try.prog 50 sp50 := by
  have hV : VOk Try.prog (env []) := env_ok trivial
  refine SpecOk.of1 (Enters.of Try.func50 (by decide)) fun l hp => ?_
  refine PureCon.of hV Try.func50 rfl (by rw [Try.ntmps50]; simp) fun w0 I0 => ?_
  rw [Try.ntmps50]
  refine AWp.seqKL hV [0] ?_
  simp
  repeat refine And.intro (by first | omega | grind) ?_
  refine AWp.seqKL hV [0, 3] ?_
  simp
  repeat refine And.intro (by first | omega | grind) ?_
  refine AWp.seq ?_
  refine AWp.seqKL hV [3, 6, 7, 8] ?_
  simp
  repeat refine And.intro (by first | omega | grind) ?_
  refine AWp.block ?_
  refine AWp.loop (X := Nat) (fun z => ⟨[(3, .d (.int .i64 0)), (6, .d (enc l)), (7, .d (.int .i64 l.length)), (8, .d (.int .i64 (z : Int)))], []⟩) (fun z => z ≤ l.length ∧ orI l = orI (l.drop z)) (fun z => l.length - z) (0) ?_ ?_ fun z hz => ?_
  · simp
  · refine Sub.ren [] (by decide) ?_ ?_ <;> simp [renL, AO.ren, forgetsR, T.ren, idx]
  refine AWp.seqKL hV [3, 6, 7, 8, 9] ?_
  simp
  repeat refine And.intro (by first | omega | grind) ?_
  refine AWp.seq ?_
  refine AWp.cond rfl (fun h1 => ?_) fun h1 => ?_
  · try simp at h1
    obtain ⟨x, hx⟩ := ex_get h1
    have hd := drop_get hx
    have ho := orI_cons x (l.drop (z + 1))
    refine AWp.skip ?_
    try simp only [thenQ, inBlockQ]
    refine AWp.seq ?_
    refine AWp.block ?_
    refine AWp.seqKL hV [3, 5, 6, 7, 8] ?_
    simp [elAt_enc hx]
    repeat refine And.intro (by first | omega | grind) ?_
    refine AWp.seqKL hV [3, 5, 6, 7, 8, 14] ?_
    simp [elAt_enc hx]
    repeat refine And.intro (by first | omega | grind) ?_
    refine AWp.cond rfl (fun h2 => ?_) fun h2 => ?_
    · try simp at h2
      refine AWp.seqKL hV [2] ?_
      simp [elAt_enc hx]
      repeat refine And.intro (by first | omega | grind) ?_
      refine AWp.ret ?_
      simp [retOk, resT, thenQ, inBlockQ, elAt_enc hx, *]
      all_goals first | omega | grind [orI_nil]
    · try simp at h2
      refine AWp.skip ?_
      try simp only [thenQ, inBlockQ]
      refine AWp.region hV ?_
      simp [elAt_enc hx]
      repeat refine And.intro (by first | omega | grind) ?_
      try simp only [thenQ, inBlockQ]
      refine ⟨z + 1, ?_, ?_, Sub.ren [] (by decide) ?_ ?_⟩
      · grind
      · first | omega | grind
      · simp [renL, AO.ren, T.ren, idx, elAt_enc hx]
      · simp [forgetsR, T.ren, idx, elAt_enc hx] <;> omega
  · try simp at h1
    refine AWp.exit ?_
    simp [thenQ, inBlockQ]
    try simp only [thenQ, inBlockQ]
    refine AWp.seqKL hV [2] ?_
    simp
    repeat refine And.intro (by first | omega | grind) ?_
    refine AWp.ret ?_
    simp [retOk, resT, thenQ, inBlockQ, *]
    all_goals first | omega | grind [orI_nil]

def sp32 : Eva.Spec := spec2 (fun (a : Event) (b : Event) => True) fun (a : Event) (b : Event) => enc (order a b)
theorem ok32 : SpecOk Try.prog 32 sp32 := by
  have hV : VOk Try.prog (env [(51, sp51), (50, sp50)]) := env_ok ⟨ok51, ok50, trivial⟩
  refine SpecOk.of2 (Enters.of Try.func32 (by decide)) fun a b hp => ?_
  refine PureCon.of hV Try.func32 rfl (by rw [Try.ntmps32]; simp) fun w0 I0 => ?_
  rw [Try.ntmps32]
  refine AWp.seqKL hV [2, 3] ?_
  simp [sp51, sp50]
  repeat refine And.intro (by first | omega | grind) ?_
  refine AWp.seqDKL hV mixed 12 [4] (by decide) ?_
  simp [sp51, sp50]
  repeat refine And.intro (by first | omega | grind) ?_
  refine AWp.ret ?_
  simp [retOk, resT, thenQ, inBlockQ, order, orI_cons, orI_nil, *]
  all_goals first | omega | grind

def sp31 : Eva.Spec := spec2 (fun (a : Event) (b : Event) => True) fun (a : Event) (b : Event) => enc (order a b)
theorem ok31 : SpecOk Try.prog 31 sp31 := by
  have hV : VOk Try.prog (env [(32, sp32)]) := env_ok ⟨ok32, trivial⟩
  refine SpecOk.of2 (Enters.of Try.func31 (by decide)) fun a b hp => ?_
  refine PureCon.of hV Try.func31 rfl (by rw [Try.ntmps31]; simp) fun w0 I0 => ?_
  rw [Try.ntmps31]
  refine AWp.seqKL hV [2, 3] ?_
  simp [sp32]
  repeat refine And.intro (by first | omega | grind) ?_
  refine AWp.seqKL hV [4] ?_
  simp [sp32]
  repeat refine And.intro (by first | omega | grind) ?_
  refine AWp.ret ?_
  simp [retOk, resT, thenQ, inBlockQ, *]
  all_goals first | omega | grind

def sp24 : Eva.Spec := spec1 (fun (m : Mark) => True) fun (m : Mark) => enc (markOk m)
theorem ok24 : SpecOk Try.prog 24 sp24 := by
  have hV : VOk Try.prog (env [(43, sp43), (44, sp44), (23, sp23), (42, sp42)]) := env_ok ⟨ok43, ok44, ok23, ok42, trivial⟩
  refine SpecOk.of1 (Enters.of Try.func24 (by decide)) fun m hp => ?_
  refine PureCon.of hV Try.func24 rfl (by rw [Try.ntmps24]; simp) fun w0 I0 => ?_
  rw [Try.ntmps24]
  refine AWp.seqKL hV [1] ?_
  simp [sp43, sp44, sp23, sp42]
  repeat refine And.intro (by first | omega | grind) ?_
  refine AWp.seqKL hV [1, 3] ?_
  simp [sp43, sp44, sp23, sp42]
  repeat refine And.intro (by first | omega | grind) ?_
  refine AWp.seqKL hV [1, 3, 4] ?_
  simp [sp43, sp44, sp23, sp42]
  repeat refine And.intro (by first | omega | grind) ?_
  refine AWp.seq ?_
  refine AWp.seqKL hV [1, 42] ?_
  simp [sp43, sp44, sp23, sp42]
  repeat refine And.intro (by first | omega | grind) ?_
  refine AWp.cond rfl (fun h1 => ?_) fun h1 => ?_
  · try simp at h1
    refine AWp.seqKL hV [2] ?_
    simp [sp43, sp44, sp23, sp42]
    repeat refine And.intro (by first | omega | grind) ?_
    refine AWp.ret ?_
    simp [retOk, resT, thenQ, inBlockQ, markOk, *]
    all_goals first | omega | grind
  · try simp at h1
    refine AWp.skip ?_
    try simp only [thenQ, inBlockQ]
    refine AWp.seqKL hV [2] ?_
    simp [sp43, sp44, sp23, sp42]
    repeat refine And.intro (by first | omega | grind) ?_
    refine AWp.ret ?_
    simp [retOk, resT, thenQ, inBlockQ, markOk, *]
    all_goals first | omega | grind

def sp57 : Eva.Spec := spec0 (D.map [.int .i64 1, .int .i64 2, .int .i64 3, .int .i64 4] [.agg [.fn 75, .fn 76], .agg [.fn 77, .fn 78], .agg [.fn 79, .fn 80], .agg [.fn 81, .fn 82]])
theorem ok57 : SpecOk Try.prog 57 sp57 := by
  have hV : VOk Try.prog (env []) := env_ok trivial
  refine SpecOk.of0 (Enters.of Try.func57 (by decide)) ?_
  refine PureCon.of hV Try.func57 rfl (by rw [Try.ntmps57]; simp) fun w0 I0 => ?_
  rw [Try.ntmps57]
  refine AWp.seqKL hV [] ?_
  simp
  repeat refine And.intro (by first | omega | grind) ?_
  refine AWp.seqKL hV [0] ?_
  simp
  repeat refine And.intro (by first | omega | grind) ?_
  refine AWp.ret ?_
  simp [retOk, resT, thenQ, inBlockQ, *]
  all_goals first | omega | grind

def sp77 : Eva.Spec := spec1 (fun (r : Reader) => True) fun (r : Reader) => enc (isID r.part && within r.desk 1 40 && decide (r.seat = 0))
theorem ok77 : SpecOk Try.prog 77 sp77 := by
  have hV : VOk Try.prog (env [(75, sp75)]) := env_ok ⟨ok75, trivial⟩
  refine SpecOk.of1 (Enters.of Try.func77 (by decide)) fun r hp => ?_
  refine PureCon.of hV Try.func77 rfl (by rw [Try.ntmps77]; simp) fun w0 I0 => ?_
  rw [Try.ntmps77]
  refine AWp.seqKL hV [1] ?_
  simp [sp75]
  repeat refine And.intro (by first | omega | grind) ?_
  refine AWp.seqKL hV [2] ?_
  simp [sp75]
  repeat refine And.intro (by first | omega | grind) ?_
  refine AWp.ret ?_
  simp [retOk, resT, thenQ, inBlockQ, isReader, isID, within, *]
  all_goals first | omega | grind

def sp79 : Eva.Spec := spec1 (fun (r : Reader) => True) fun (r : Reader) => enc (within r.part 0 99 && decide (r.desk = 0) && decide (r.seat = 0))
theorem ok79 : SpecOk Try.prog 79 sp79 := by
  have hV : VOk Try.prog (env [(60, sp60)]) := env_ok ⟨ok60, trivial⟩
  refine SpecOk.of1 (Enters.of Try.func79 (by decide)) fun r hp => ?_
  refine PureCon.of hV Try.func79 rfl (by rw [Try.ntmps79]; simp) fun w0 I0 => ?_
  rw [Try.ntmps79]
  refine AWp.seqKL hV [1] ?_
  simp [sp60]
  repeat refine And.intro (by first | omega | grind) ?_
  refine AWp.seqKL hV [2] ?_
  simp [sp60]
  repeat refine And.intro (by first | omega | grind) ?_
  refine AWp.ret ?_
  simp [retOk, resT, thenQ, inBlockQ, *]
  all_goals first | omega | grind

def sp81 : Eva.Spec := spec1 (fun (r : Reader) => True) fun (r : Reader) => enc (decide (r.part = 0) && decide (r.desk = 0) && decide (r.seat = 0))
theorem ok81 : SpecOk Try.prog 81 sp81 := by
  have hV : VOk Try.prog (env []) := env_ok trivial
  refine SpecOk.of1 (Enters.of Try.func81 (by decide)) fun r hp => ?_
  refine PureCon.of hV Try.func81 rfl (by rw [Try.ntmps81]; simp) fun w0 I0 => ?_
  rw [Try.ntmps81]
  refine AWp.seqKL hV [1] ?_
  simp
  repeat refine And.intro (by first | omega | grind) ?_
  refine AWp.seqKL hV [2] ?_
  simp
  repeat refine And.intro (by first | omega | grind) ?_
  refine AWp.ret ?_
  simp [retOk, resT, thenQ, inBlockQ, *]
  all_goals first | omega | grind

def sp58 : Eva.Spec := spec1 (fun (r : Rune) => True) fun (r : Rune) => enc (oddRune r)
theorem ok58 : SpecOk Try.prog 58 sp58 := by
  have hV : VOk Try.prog (env []) := env_ok trivial
  refine SpecOk.of1 (Enters.of Try.func58 (by decide)) fun r hp => ?_
  refine PureCon.of hV Try.func58 rfl (by rw [Try.ntmps58]; simp) fun w0 I0 => ?_
  rw [Try.ntmps58]
  refine AWp.seqKL hV [0] ?_
  simp
  repeat refine And.intro (by first | omega | grind) ?_
  refine AWp.seqKL hV [2] ?_
  simp
  repeat refine And.intro (by first | omega | grind) ?_
  refine AWp.ret ?_
  simp [retOk, resT, thenQ, inBlockQ, oddRune, *]
  all_goals first | omega | grind

def sp41 : Eva.Spec := spec1 (fun (e : Event) => True) fun (e : Event) => enc (eventOk e)
theorem ok41 : SpecOk Try.prog 41 sp41 := by
  have hV : VOk Try.prog (env [(55, sp55), (23, sp23), (24, sp24)]) := env_ok ⟨ok55, ok23, ok24, trivial⟩
  refine SpecOk.of1 (Enters.of Try.func41 (by decide)) fun e hp => ?_
  refine PureCon.of hV Try.func41 rfl (by rw [Try.ntmps41]; simp) fun w0 I0 => ?_
  rw [Try.ntmps41]
  refine AWp.seqKL hV [1] ?_
  simp [sp55, sp23, sp24]
  repeat refine And.intro (by first | omega | grind) ?_
  refine AWp.seq ?_
  refine AWp.seqKL hV [1, 13] ?_
  simp [sp55, sp23, sp24]
  repeat refine And.intro (by first | omega | grind) ?_
  refine AWp.cond rfl (fun h1 => ?_) fun h1 => ?_
  · try simp at h1
    refine AWp.seqKL hV [2] ?_
    simp [sp55, sp23, sp24]
    repeat refine And.intro (by first | omega | grind) ?_
    refine AWp.ret ?_
    simp [retOk, resT, thenQ, inBlockQ, eventOk, *]
    all_goals first | omega | grind
  · try simp at h1
    refine AWp.skip ?_
    try simp only [thenQ, inBlockQ]
    refine AWp.seq ?_
    refine AWp.seqKL hV [1, 15] ?_
    simp [sp55, sp23, sp24]
    repeat refine And.intro (by first | omega | grind) ?_
    refine AWp.block ?_
    refine AWp.seqKL hV [1, 15, 16] ?_
    simp [sp55, sp23, sp24]
    repeat refine And.intro (by first | omega | grind) ?_
    refine AWp.cond rfl (fun h2 => ?_) fun h2 => ?_
    · try simp at h2
      refine AWp.seqKL hV [1, 3] ?_
      simp [sp55, sp23, sp24]
      repeat refine And.intro (by first | omega | grind) ?_
      refine AWp.seqKL hV [2] ?_
      simp [sp55, sp23, sp24]
      repeat refine And.intro (by first | omega | grind) ?_
      refine AWp.ret ?_
      simp [retOk, resT, thenQ, inBlockQ, eventOk, *]
      all_goals first | omega | grind
    · try simp at h2
      refine AWp.seqKL hV [1, 15, 27] ?_
      simp [sp55, sp23, sp24]
      repeat refine And.intro (by first | omega | grind) ?_
      refine AWp.cond rfl (fun h3 => ?_) fun h3 => ?_
      · try simp at h3
        refine AWp.seqKL hV [2] ?_
        simp [sp55, sp23, sp24]
        repeat refine And.intro (by first | omega | grind) ?_
        refine AWp.ret ?_
        simp [retOk, resT, thenQ, inBlockQ, eventOk, *]
        all_goals first | omega | grind
      · try simp at h3
        refine AWp.seqKL hV [1, 38] ?_
        simp [sp55, sp23, sp24]
        repeat refine And.intro (by first | omega | grind) ?_
        refine AWp.cond rfl (fun h4 => ?_) fun h4 => ?_
        · try simp at h4
          refine AWp.seqKL hV [2] ?_
          simp [sp55, sp23, sp24]
          repeat refine And.intro (by first | omega | grind) ?_
          refine AWp.ret ?_
          simp [retOk, resT, thenQ, inBlockQ, eventOk, *]
          all_goals first | omega | grind
        · try simp at h4
          refine AWp.skip ?_
          try simp only [thenQ, inBlockQ]
          refine AWp.seqKL hV [2] ?_
          simp [sp55, sp23, sp24]
          repeat refine And.intro (by first | omega | grind) ?_
          refine AWp.ret ?_
          simp [retOk, resT, thenQ, inBlockQ, eventOk, *]
          all_goals first | omega | grind
end Go.Proofs.Ytpbhcpeilgmkeaa

/-
  Walks of the events: printed by gen1.py.
-/
namespace Go.Proofs.Ytpbhcpeilgmkeaa
open Go Go.Eva Enc
variable [Drw]
set_option linter.unusedSectionVars false
set_option linter.unusedSimpArgs false
set_option linter.unusedVariables false
set_option maxRecDepth 4000
attribute [local congr] AWp.congrS
attribute [local simp] evalSeq opRes guardPc evalOp evT Eva.get startT strip putT Eva.after constT typed obAll holds dstOk R.ok R.bad ofD binD unD pickT subL subP Op.operands Call.operands toD argsD callD callT typedAll cfind quietT spec0 spec1 spec2 spec3 enc_int enc_bool enc_str enc_fn enc_list dec_int dec_bool dec_str dec_fn dec_list size_int size_str enc_R enc_M enc_E dec_R dec_M dec_E size_R size_M size_E eta_R eta_M eta_E enc_rune size_rune dec_rune eta_rune runesD_eq map_dec_enc map_dec_comp cellsT D.cells T.oneT D.one mkT unD1 setAt loadAs loadEl storeAs fieldP fieldV sizeE intOfT indexP appendT lenT sliceT elemSize arith lfsOk lfOk beqL_R beqL_M beqL_E beqL_R0 beqL_M0 isAggD mkD fillD placeS TD.agg env restr List.map keyIdx keysInt mapTy lookT mapPutT mapDelT mapOf indexS convT evalPure range1 range2 range3 range4 eqT4 eqT38 eqT40 eqT42 te1 te2 te3 te4 te5 te6 te7 te8 te9 te10 te11 te12 te13 te14 te15 te16 te17 te18 te19 te21 te22 te23 te24 te25 te27 te28 te29 te31 te32 te34 te35 te36 te37 te38 te39 te40 te41 te42 te43 te44 te45 te46 te47 te49 te50 te51 te52 te53 te54 te55 te56 te57 te59 te60 te61 te62 te63 te64 te65 te66 te67 te68 te69 te70 te71 te72 te73 te74 te75 te76 te77 te78 te79 te80 te82 te83 te84 te85 te86 te87 te88 te90 te91 te92 te94 te95 te96 te97 te98 te99 te100 te101 te102 te103 te104 te105 te106 te107 te108 te109 te110 te111 te112 te113 te114 te116 te117 te118 te119 te120 te121 te122 te123 te124 te125 te126 te127 te128 te129 te130 te131 te132 te133 te134

def sp83 : Eva.Spec := spec2 (fun (l : List Rune) (f : Eva.Fn) => l.length ≤ 1000000000 ∧ f = ⟨58⟩) fun (l : List Rune) (f : Eva.Fn) => enc (idxI oddRune l)
theorem ok83 : SpecOk Try.prog 83 sp83 := by
  have hV : VOk Try.prog (env [(58, sp58)]) := env_ok ⟨ok58, trivial⟩
  refine SpecOk.of2 (Enters.of Try.func83 (by decide)) fun l f hp => ?_
  obtain ⟨hp, rfl⟩ := hp
  refine PureCon.of hV Try.func83 rfl (by rw [Try.ntmps83]; simp) fun w0 I0 => ?_
  rw [Try.ntmps83]
  refine AWp.seqKL hV [0, 1] ?_
  simp [sp58]
  repeat refine And.intro (by first | omega | grind) ?_
  refine AWp.seq ?_
  refine AWp.seqKL hV [0, 1, 7, 8] ?_
  simp [sp58]
  repeat refine And.intro (by first | omega | grind) ?_
  refine AWp.block ?_
  refine AWp.loop (X := Nat) (fun z => ⟨[(0, .d (enc l)), (1, .d (.fn 58)), (7, .d (.int .i64 l.length)), (8, .d (.int .i64 (z : Int)))], []⟩) (fun z => z ≤ l.length ∧ (l.take z).any oddRune = false) (fun z => l.length - z) (0) ?_ ?_ fun z hz => ?_
  · simp
  · refine Sub.ren [] (by decide) ?_ ?_ <;> simp [renL, AO.ren, forgetsR, T.ren, idx]
  refine AWp.seqKL hV [0, 1, 7, 8, 9] ?_
  simp [sp58]
  repeat refine And.intro (by first | omega | grind) ?_
  refine AWp.seq ?_
  refine AWp.cond rfl (fun h1 => ?_) fun h1 => ?_
  · try simp at h1
    obtain ⟨x, hx⟩ := ex_get h1
    have hs := any_take_succ (p := oddRune) hx
    refine AWp.skip ?_
    try simp only [thenQ, inBlockQ]
    refine AWp.seq ?_
    refine AWp.block ?_
    refine AWp.seqKL hV [0, 1, 5, 7, 8] ?_
    simp [sp58, elAt_enc hx]
    repeat refine And.intro (by first | omega | grind) ?_
    refine AWp.seqKL hV [0, 1, 5, 7, 8, 16] ?_
    simp [sp58, elAt_enc hx]
    repeat refine And.intro (by first | omega | grind) ?_
    refine AWp.cond rfl (fun h2 => ?_) fun h2 => ?_
    · try simp at h2
      have hi := idxI_at hz.2 hx h2
      refine AWp.seqKL hV [4] ?_
      simp [sp58, elAt_enc hx]
      repeat refine And.intro (by first | omega | grind) ?_
      refine AWp.ret ?_
      simp [retOk, resT, thenQ, inBlockQ, elAt_enc hx, *]
      all_goals first | omega | grind
    · try simp at h2
      refine AWp.skip ?_
      try simp only [thenQ, inBlockQ]
      refine AWp.region hV ?_
      simp [sp58, elAt_enc hx]
      repeat refine And.intro (by first | omega | grind) ?_
      try simp only [thenQ, inBlockQ]
      refine ⟨z + 1, ?_, ?_, Sub.ren [] (by decide) ?_ ?_⟩
      · first | omega | grind
      · first | omega | grind
      · simp [renL, AO.ren, T.ren, idx, elAt_enc hx]
      · simp [forgetsR, T.ren, idx, elAt_enc hx] <;> omega
  · try simp at h1
    have hi := idxI_end hz.2 h1
    refine AWp.exit ?_
    simp [thenQ, inBlockQ]
    try simp only [thenQ, inBlockQ]
    refine AWp.seqKL hV [4] ?_
    simp [sp58]
    repeat refine And.intro (by first | omega | grind) ?_
    refine AWp.ret ?_
    simp [retOk, resT, thenQ, inBlockQ, *]
    all_goals first | omega | grind

def sp61 : Eva.Spec := spec2 (fun (l : List Rune) (f : Eva.Fn) => l.length ≤ 1000000000 ∧ f = ⟨58⟩) fun (l : List Rune) (f : Eva.Fn) => enc (l.any oddRune)
theorem ok61 : SpecOk Try.prog 61 sp61 := by
  have hV : VOk Try.prog (env [(83, sp83)]) := env_ok ⟨ok83, trivial⟩
  refine SpecOk.of2 (Enters.of Try.func61 (by decide)) fun l f hp => ?_
  obtain ⟨hp, rfl⟩ := hp
  have hi := idxI_any oddRune l
  refine PureCon.of hV Try.func61 rfl (by rw [Try.ntmps61]; simp) fun w0 I0 => ?_
  rw [Try.ntmps61]
  refine AWp.seqKL hV [0, 1] ?_
  simp [sp83]
  repeat refine And.intro (by first | omega | grind) ?_
  refine AWp.seqKL hV [4] ?_
  simp [sp83]
  repeat refine And.intro (by first | omega | grind) ?_
  refine AWp.ret ?_
  simp [retOk, resT, thenQ, inBlockQ, *]
  all_goals first | omega | grind
end Go.Proofs.Ytpbhcpeilgmkeaa

/-
  Walks of the events: printed by gen1.py.
-/
namespace Go.Proofs.Ytpbhcpeilgmkeaa
open Go Go.Eva Enc
variable [Drw]
set_option linter.unusedSectionVars false
set_option linter.unusedSimpArgs false
set_option linter.unusedVariables false
set_option maxRecDepth 4000
attribute [local congr] AWp.congrS
attribute [local simp] evalSeq opRes guardPc evalOp evT Eva.get startT strip putT Eva.after constT typed obAll holds dstOk R.ok R.bad ofD binD unD pickT subL subP Op.operands Call.operands toD argsD callD callT typedAll cfind quietT spec0 spec1 spec2 spec3 enc_int enc_bool enc_str enc_fn enc_list dec_int dec_bool dec_str dec_fn dec_list size_int size_str enc_R enc_M enc_E dec_R dec_M dec_E size_R size_M size_E eta_R eta_M eta_E enc_rune size_rune dec_rune eta_rune runesD_eq map_dec_enc map_dec_comp cellsT D.cells T.oneT D.one mkT unD1 setAt loadAs loadEl storeAs fieldP fieldV sizeE intOfT indexP appendT lenT sliceT elemSize arith lfsOk lfOk beqL_R beqL_M beqL_E beqL_R0 beqL_M0 isAggD mkD fillD placeS TD.agg env restr List.map keyIdx keysInt mapTy lookT mapPutT mapDelT mapOf indexS convT evalPure range1 range2 range3 range4 eqT4 eqT38 eqT40 eqT42 te1 te2 te3 te4 te5 te6 te7 te8 te9 te10 te11 te12 te13 te14 te15 te16 te17 te18 te19 te21 te22 te23 te24 te25 te27 te28 te29 te31 te32 te34 te35 te36 te37 te38 te39 te40 te41 te42 te43 te44 te45 te46 te47 te49 te50 te51 te52 te53 te54 te55 te56 te57 te59 te60 te61 te62 te63 te64 te65 te66 te67 te68 te69 te70 te71 te72 te73 te74 te75 te76 te77 te78 te79 te80 te82 te83 te84 te85 te86 te87 te88 te90 te91 te92 te94 te95 te96 te97 te98 te99 te100 te101 te102 te103 te104 te105 te106 te107 te108 te109 te110 te111 te112 te113 te114 te116 te117 te118 te119 te120 te121 te122 te123 te124 te125 te126 te127 te128 te129 te130 te131 te132 te133 te134

def sp45 : Eva.Spec := spec1 (fun (m : Mark) => True) fun (m : Mark) => enc (markOk m)
set_option maxHeartbeats 4000000 in
theorem ok45 : SpecOk Try.prog 45 sp45 := by
  have hV : VOk Try.prog (env [(57, sp57), (75, sp75), (77, sp77), (79, sp79), (81, sp81), (59, sp59), (60, sp60), (61, sp61)]) := env_ok ⟨ok57, ok75, ok77, ok79, ok81, ok59, ok60, ok61, trivial⟩
  refine SpecOk.of1 (Enters.of Try.func45 (by decide)) fun m hp => ?_
  have hrl := runes_length m.text
  have htr := textRunes m.text
  have hts := @textOk_size m.text
  refine PureCon.of hV Try.func45 rfl (by rw [Try.ntmps45]; simp) fun w0 I0 => ?_
  rw [Try.ntmps45]
  refine AWp.seqKL hV [1] ?_
  simp [sp57, sp75, sp77, sp79, sp81, sp59, sp60, sp61]
  repeat refine And.intro (by first | omega | grind) ?_
  rcases (show m.layer = 1 ∨ m.layer = 2 ∨ m.layer = 3 ∨ m.layer = 4 ∨ (m.layer ≠ 1 ∧ m.layer ≠ 2 ∧ m.layer ≠ 3 ∧ m.layer ≠ 4) by omega) with hl | hl | hl | hl | ⟨hl1, hl2, hl3, hl4⟩
  · refine AWp.seqDFL hV mixed 8 [6] [1, 3, 4] (by decide) ?_
    simp [sp57, sp75, sp77, sp79, sp81, sp59, sp60, sp61, hl, elAt]
    repeat refine And.intro (by first | omega | grind) ?_
    refine AWp.seqKL hV [1, 3, 4, 5] ?_
    simp [sp57, sp75, sp77, sp79, sp81, sp59, sp60, sp61, hl, elAt]
    repeat refine And.intro (by first | omega | grind) ?_
    refine AWp.seq ?_
    refine AWp.seqKL hV [1, 5, 47] ?_
    simp [sp57, sp75, sp77, sp79, sp81, sp59, sp60, sp61, hl, elAt]
    repeat refine And.intro (by first | omega | grind) ?_
    refine AWp.cond rfl (fun h1 => ?_) fun h1 => ?_
    · try simp at h1
      refine AWp.seqKL hV [2] ?_
      simp [sp57, sp75, sp77, sp79, sp81, sp59, sp60, sp61, hl, elAt]
      repeat refine And.intro (by first | omega | grind) ?_
      refine AWp.ret ?_
      simp [retOk, resT, thenQ, inBlockQ, markOk, byOk, hl, elAt, *]
      all_goals first | omega | grind [within]
    · try simp at h1
      all_goals
        refine AWp.skip ?_
        try simp only [thenQ, inBlockQ]
        refine AWp.seqKL hV [1, 5, 6] ?_
        simp [sp57, sp75, sp77, sp79, sp81, sp59, sp60, sp61, hl, elAt]
        repeat refine And.intro (by first | omega | grind) ?_
        refine AWp.seq ?_
        refine AWp.seqKL hV [1, 5, 6, 50] ?_
        simp [sp57, sp75, sp77, sp79, sp81, sp59, sp60, sp61, hl, elAt]
        repeat refine And.intro (by first | omega | grind) ?_
        refine AWp.cond rfl (fun h2 => ?_) fun h2 => ?_
        · try simp at h2
          refine AWp.region hV ?_
          simp [sp57, sp75, sp77, sp79, sp81, sp59, sp60, sp61, hl, elAt]
          repeat refine And.intro (by first | omega | grind) ?_
          try simp only [thenQ, inBlockQ]
          refine AWp.seqKL hV [2] ?_
          simp [sp57, sp75, sp77, sp79, sp81, sp59, sp60, sp61, hl, elAt]
          repeat refine And.intro (by first | omega | grind) ?_
          refine AWp.ret ?_
          simp [retOk, resT, thenQ, inBlockQ, markOk, byOk, hl, elAt, *]
          all_goals first | omega | grind [within]
        · try simp at h2
          refine AWp.skip ?_
          try simp only [thenQ, inBlockQ]
          refine AWp.seqKL hV [2] ?_
          simp [sp57, sp75, sp77, sp79, sp81, sp59, sp60, sp61, hl, elAt]
          repeat refine And.intro (by first | omega | grind) ?_
          refine AWp.ret ?_
          simp [retOk, resT, thenQ, inBlockQ, markOk, byOk, hl, elAt, *]
          all_goals first | omega | grind [within]
  · refine AWp.seqDFL hV mixed 8 [6] [1, 3, 4] (by decide) ?_
    simp [sp57, sp75, sp77, sp79, sp81, sp59, sp60, sp61, hl, elAt]
    repeat refine And.intro (by first | omega | grind) ?_
    refine AWp.seqKL hV [1, 3, 4, 5] ?_
    simp [sp57, sp75, sp77, sp79, sp81, sp59, sp60, sp61, hl, elAt]
    repeat refine And.intro (by first | omega | grind) ?_
    refine AWp.seq ?_
    refine AWp.seqKL hV [1, 5, 47] ?_
    simp [sp57, sp75, sp77, sp79, sp81, sp59, sp60, sp61, hl, elAt]
    repeat refine And.intro (by first | omega | grind) ?_
    refine AWp.cond rfl (fun h1 => ?_) fun h1 => ?_
    · try simp at h1
      refine AWp.seqKL hV [2] ?_
      simp [sp57, sp75, sp77, sp79, sp81, sp59, sp60, sp61, hl, elAt]
      repeat refine And.intro (by first | omega | grind) ?_
      refine AWp.ret ?_
      simp [retOk, resT, thenQ, inBlockQ, markOk, byOk, hl, elAt, *]
      all_goals first | omega | grind [within]
    · try simp at h1
      all_goals
        refine AWp.skip ?_
        try simp only [thenQ, inBlockQ]
        refine AWp.seqKL hV [1, 5, 6] ?_
        simp [sp57, sp75, sp77, sp79, sp81, sp59, sp60, sp61, hl, elAt]
        repeat refine And.intro (by first | omega | grind) ?_
        refine AWp.seq ?_
        refine AWp.seqKL hV [1, 5, 6, 50] ?_
        simp [sp57, sp75, sp77, sp79, sp81, sp59, sp60, sp61, hl, elAt]
        repeat refine And.intro (by first | omega | grind) ?_
        refine AWp.cond rfl (fun h2 => ?_) fun h2 => ?_
        · try simp at h2
          refine AWp.region hV ?_
          simp [sp57, sp75, sp77, sp79, sp81, sp59, sp60, sp61, hl, elAt]
          repeat refine And.intro (by first | omega | grind) ?_
          try simp only [thenQ, inBlockQ]
          refine AWp.seqKL hV [2] ?_
          simp [sp57, sp75, sp77, sp79, sp81, sp59, sp60, sp61, hl, elAt]
          repeat refine And.intro (by first | omega | grind) ?_
          refine AWp.ret ?_
          simp [retOk, resT, thenQ, inBlockQ, markOk, byOk, hl, elAt, *]
          all_goals first | omega | grind [within]
        · try simp at h2
          refine AWp.skip ?_
          try simp only [thenQ, inBlockQ]
          refine AWp.seqKL hV [2] ?_
          simp [sp57, sp75, sp77, sp79, sp81, sp59, sp60, sp61, hl, elAt]
          repeat refine And.intro (by first | omega | grind) ?_
          refine AWp.ret ?_
          simp [retOk, resT, thenQ, inBlockQ, markOk, byOk, hl, elAt, *]
          all_goals first | omega | grind [within]
  · refine AWp.seqDFL hV mixed 8 [6] [1, 3, 4] (by decide) ?_
    simp [sp57, sp75, sp77, sp79, sp81, sp59, sp60, sp61, hl, elAt]
    repeat refine And.intro (by first | omega | grind) ?_
    refine AWp.seqKL hV [1, 3, 4, 5] ?_
    simp [sp57, sp75, sp77, sp79, sp81, sp59, sp60, sp61, hl, elAt]
    repeat refine And.intro (by first | omega | grind) ?_
    refine AWp.seq ?_
    refine AWp.seqKL hV [1, 5, 47] ?_
    simp [sp57, sp75, sp77, sp79, sp81, sp59, sp60, sp61, hl, elAt]
    repeat refine And.intro (by first | omega | grind) ?_
    refine AWp.cond rfl (fun h1 => ?_) fun h1 => ?_
    · try simp at h1
      refine AWp.seqKL hV [2] ?_
      simp [sp57, sp75, sp77, sp79, sp81, sp59, sp60, sp61, hl, elAt]
      repeat refine And.intro (by first | omega | grind) ?_
      refine AWp.ret ?_
      simp [retOk, resT, thenQ, inBlockQ, markOk, byOk, hl, elAt, *]
      all_goals first | omega | grind [within]
    · try simp at h1
      all_goals
        refine AWp.skip ?_
        try simp only [thenQ, inBlockQ]
        refine AWp.seqKL hV [1, 5, 6] ?_
        simp [sp57, sp75, sp77, sp79, sp81, sp59, sp60, sp61, hl, elAt]
        repeat refine And.intro (by first | omega | grind) ?_
        refine AWp.seq ?_
        refine AWp.seqKL hV [1, 5, 6, 50] ?_
        simp [sp57, sp75, sp77, sp79, sp81, sp59, sp60, sp61, hl, elAt]
        repeat refine And.intro (by first | omega | grind) ?_
        refine AWp.cond rfl (fun h2 => ?_) fun h2 => ?_
        · try simp at h2
          refine AWp.region hV ?_
          simp [sp57, sp75, sp77, sp79, sp81, sp59, sp60, sp61, hl, elAt]
          repeat refine And.intro (by first | omega | grind) ?_
          try simp only [thenQ, inBlockQ]
          refine AWp.seqKL hV [2] ?_
          simp [sp57, sp75, sp77, sp79, sp81, sp59, sp60, sp61, hl, elAt]
          repeat refine And.intro (by first | omega | grind) ?_
          refine AWp.ret ?_
          simp [retOk, resT, thenQ, inBlockQ, markOk, byOk, hl, elAt, *]
          all_goals first | omega | grind [within]
        · try simp at h2
          refine AWp.skip ?_
          try simp only [thenQ, inBlockQ]
          refine AWp.seqKL hV [2] ?_
          simp [sp57, sp75, sp77, sp79, sp81, sp59, sp60, sp61, hl, elAt]
          repeat refine And.intro (by first | omega | grind) ?_
          refine AWp.ret ?_
          simp [retOk, resT, thenQ, inBlockQ, markOk, byOk, hl, elAt, *]
          all_goals first | omega | grind [within]
  · refine AWp.seqDFL hV mixed 8 [6] [1, 3, 4] (by decide) ?_
    simp [sp57, sp75, sp77, sp79, sp81, sp59, sp60, sp61, hl, elAt]
    repeat refine And.intro (by first | omega | grind) ?_
    refine AWp.seqKL hV [1, 3, 4, 5] ?_
    simp [sp57, sp75, sp77, sp79, sp81, sp59, sp60, sp61, hl, elAt]
    repeat refine And.intro (by first | omega | grind) ?_
    refine AWp.seq ?_
    refine AWp.seqKL hV [1, 5, 47] ?_
    simp [sp57, sp75, sp77, sp79, sp81, sp59, sp60, sp61, hl, elAt]
    repeat refine And.intro (by first | omega | grind) ?_
    refine AWp.cond rfl (fun h1 => ?_) fun h1 => ?_
    · try simp at h1
      refine AWp.seqKL hV [2] ?_
      simp [sp57, sp75, sp77, sp79, sp81, sp59, sp60, sp61, hl, elAt]
      repeat refine And.intro (by first | omega | grind) ?_
      refine AWp.ret ?_
      simp [retOk, resT, thenQ, inBlockQ, markOk, byOk, hl, elAt, *]
      all_goals first | omega | grind [within]
    · try simp at h1
      all_goals
        refine AWp.skip ?_
        try simp only [thenQ, inBlockQ]
        refine AWp.seqKL hV [1, 5, 6] ?_
        simp [sp57, sp75, sp77, sp79, sp81, sp59, sp60, sp61, hl, elAt]
        repeat refine And.intro (by first | omega | grind) ?_
        refine AWp.seq ?_
        refine AWp.seqKL hV [1, 5, 6, 50] ?_
        simp [sp57, sp75, sp77, sp79, sp81, sp59, sp60, sp61, hl, elAt]
        repeat refine And.intro (by first | omega | grind) ?_
        refine AWp.cond rfl (fun h2 => ?_) fun h2 => ?_
        · try simp at h2
          refine AWp.region hV ?_
          simp [sp57, sp75, sp77, sp79, sp81, sp59, sp60, sp61, hl, elAt]
          repeat refine And.intro (by first | omega | grind) ?_
          try simp only [thenQ, inBlockQ]
          refine AWp.seqKL hV [2] ?_
          simp [sp57, sp75, sp77, sp79, sp81, sp59, sp60, sp61, hl, elAt]
          repeat refine And.intro (by first | omega | grind) ?_
          refine AWp.ret ?_
          simp [retOk, resT, thenQ, inBlockQ, markOk, byOk, hl, elAt, *]
          all_goals first | omega | grind [within]
        · try simp at h2
          refine AWp.skip ?_
          try simp only [thenQ, inBlockQ]
          refine AWp.seqKL hV [2] ?_
          simp [sp57, sp75, sp77, sp79, sp81, sp59, sp60, sp61, hl, elAt]
          repeat refine And.intro (by first | omega | grind) ?_
          refine AWp.ret ?_
          simp [retOk, resT, thenQ, inBlockQ, markOk, byOk, hl, elAt, *]
          all_goals first | omega | grind [within]
  · refine AWp.seqDFL hV mixed 8 [6] [1, 3, 4] (by decide) ?_
    simp [sp57, sp75, sp77, sp79, sp81, sp59, sp60, sp61, hl1, hl2, hl3, hl4, elAt]
    repeat refine And.intro (by first | omega | grind) ?_
    refine AWp.seqKL hV [1, 3, 4, 5] ?_
    simp [sp57, sp75, sp77, sp79, sp81, sp59, sp60, sp61, hl1, hl2, hl3, hl4, elAt]
    repeat refine And.intro (by first | omega | grind) ?_
    refine AWp.seq ?_
    refine AWp.seqKL hV [1, 5, 47] ?_
    simp [sp57, sp75, sp77, sp79, sp81, sp59, sp60, sp61, hl1, hl2, hl3, hl4, elAt]
    repeat refine And.intro (by first | omega | grind) ?_
    refine AWp.cond rfl (fun h1 => ?_) fun h1 => ?_
    · try simp at h1
      refine AWp.seqKL hV [2] ?_
      simp [sp57, sp75, sp77, sp79, sp81, sp59, sp60, sp61, hl1, hl2, hl3, hl4, elAt]
      repeat refine And.intro (by first | omega | grind) ?_
      refine AWp.ret ?_
      simp [retOk, resT, thenQ, inBlockQ, markOk, byOk, hl1, hl2, hl3, hl4, elAt, *]
      all_goals first | omega | grind [within]
    · try simp at h1
      all_goals
        refine AWp.skip ?_
        try simp only [thenQ, inBlockQ]
        refine AWp.seqKL hV [1, 5, 6] ?_
        simp [sp57, sp75, sp77, sp79, sp81, sp59, sp60, sp61, hl1, hl2, hl3, hl4, elAt]
        repeat refine And.intro (by first | omega | grind) ?_
        refine AWp.seq ?_
        refine AWp.seqKL hV [1, 5, 6, 50] ?_
        simp [sp57, sp75, sp77, sp79, sp81, sp59, sp60, sp61, hl1, hl2, hl3, hl4, elAt]
        repeat refine And.intro (by first | omega | grind) ?_
        refine AWp.cond rfl (fun h2 => ?_) fun h2 => ?_
        · try simp at h2
          refine AWp.region hV ?_
          simp [sp57, sp75, sp77, sp79, sp81, sp59, sp60, sp61, hl1, hl2, hl3, hl4, elAt]
          repeat refine And.intro (by first | omega | grind) ?_
          try simp only [thenQ, inBlockQ]
          refine AWp.seqKL hV [2] ?_
          simp [sp57, sp75, sp77, sp79, sp81, sp59, sp60, sp61, hl1, hl2, hl3, hl4, elAt]
          repeat refine And.intro (by first | omega | grind) ?_
          refine AWp.ret ?_
          simp [retOk, resT, thenQ, inBlockQ, markOk, byOk, hl1, hl2, hl3, hl4, elAt, *]
          all_goals first | omega | grind [within]
        · try simp at h2
          refine AWp.skip ?_
          try simp only [thenQ, inBlockQ]
          refine AWp.seqKL hV [2] ?_
          simp [sp57, sp75, sp77, sp79, sp81, sp59, sp60, sp61, hl1, hl2, hl3, hl4, elAt]
          repeat refine And.intro (by first | omega | grind) ?_
          refine AWp.ret ?_
          simp [retOk, resT, thenQ, inBlockQ, markOk, byOk, hl1, hl2, hl3, hl4, elAt, *]
          all_goals first | omega | grind [within]
end Go.Proofs.Ytpbhcpeilgmkeaa

/-
  Walks of the events: printed by gen1.py.
-/
namespace Go.Proofs.Ytpbhcpeilgmkeaa
open Go Go.Eva Enc
variable [Drw]
set_option linter.unusedSectionVars false
set_option linter.unusedSimpArgs false
set_option linter.unusedVariables false
set_option maxRecDepth 4000
attribute [local congr] AWp.congrS
attribute [local simp] evalSeq opRes guardPc evalOp evT Eva.get startT strip putT Eva.after constT typed obAll holds dstOk R.ok R.bad ofD binD unD pickT subL subP Op.operands Call.operands toD argsD callD callT typedAll cfind quietT spec0 spec1 spec2 spec3 enc_int enc_bool enc_str enc_fn enc_list dec_int dec_bool dec_str dec_fn dec_list size_int size_str enc_R enc_M enc_E dec_R dec_M dec_E size_R size_M size_E eta_R eta_M eta_E enc_rune size_rune dec_rune eta_rune runesD_eq map_dec_enc map_dec_comp cellsT D.cells T.oneT D.one mkT unD1 setAt loadAs loadEl storeAs fieldP fieldV sizeE intOfT indexP appendT lenT sliceT elemSize arith lfsOk lfOk beqL_R beqL_M beqL_E beqL_R0 beqL_M0 isAggD mkD fillD placeS TD.agg env restr List.map keyIdx keysInt mapTy lookT mapPutT mapDelT mapOf indexS convT evalPure range1 range2 range3 range4 eqT4 eqT38 eqT40 eqT42 te1 te2 te3 te4 te5 te6 te7 te8 te9 te10 te11 te12 te13 te14 te15 te16 te17 te18 te19 te21 te22 te23 te24 te25 te27 te28 te29 te31 te32 te34 te35 te36 te37 te38 te39 te40 te41 te42 te43 te44 te45 te46 te47 te49 te50 te51 te52 te53 te54 te55 te56 te57 te59 te60 te61 te62 te63 te64 te65 te66 te67 te68 te69 te70 te71 te72 te73 te74 te75 te76 te77 te78 te79 te80 te82 te83 te84 te85 te86 te87 te88 te90 te91 te92 te94 te95 te96 te97 te98 te99 te100 te101 te102 te103 te104 te105 te106 te107 te108 te109 te110 te111 te112 te113 te114 te116 te117 te118 te119 te120 te121 te122 te123 te124 te125 te126 te127 te128 te129 te130 te131 te132 te133 te134

def sp27 : Eva.Spec := spec1 (fun (e : Event) => True) fun (e : Event) => enc (eventOk e)
set_option maxHeartbeats 1000000 in
theorem ok27 : SpecOk Try.prog 27 sp27 := by
  have hV : VOk Try.prog (env [(45, sp45), (40, sp40), (46, sp46)]) := env_ok ⟨ok45, ok40, ok46, trivial⟩
  refine SpecOk.of1 (Enters.of Try.func27 (by decide)) fun e hp => ?_
  refine PureCon.of hV Try.func27 rfl (by rw [Try.ntmps27]; simp) fun w0 I0 => ?_
  rw [Try.ntmps27]
  refine AWp.seqKL hV [1] ?_
  simp [sp45, sp40, sp46]
  repeat refine And.intro (by first | omega | grind) ?_
  refine AWp.seqKL hV [1, 3] ?_
  simp [sp45, sp40, sp46]
  repeat refine And.intro (by first | omega | grind) ?_
  refine AWp.seqKL hV [1, 3, 4] ?_
  simp [sp45, sp40, sp46]
  repeat refine And.intro (by first | omega | grind) ?_
  refine AWp.seq ?_
  refine AWp.seqKL hV [1, 3, 4, 10] ?_
  simp [sp45, sp40, sp46]
  repeat refine And.intro (by first | omega | grind) ?_
  refine AWp.block ?_
  refine AWp.seqKL hV [1, 3, 4, 10, 11] ?_
  simp [sp45, sp40, sp46]
  repeat refine And.intro (by first | omega | grind) ?_
  refine AWp.cond rfl (fun h1 => ?_) fun h1 => ?_
  · try simp at h1
    refine AWp.region hV ?_
    simp [sp45, sp40, sp46]
    repeat refine And.intro (by first | omega | grind) ?_
    try simp only [thenQ, inBlockQ]
    refine AWp.seqKL hV [2] ?_
    simp [sp45, sp40, sp46]
    repeat refine And.intro (by first | omega | grind) ?_
    refine AWp.ret ?_
    simp [retOk, resT, thenQ, inBlockQ, eventOk, *]
    all_goals first | omega | grind
  · try simp at h1
    refine AWp.seqKL hV [1, 3, 4, 10, 21] ?_
    simp [sp45, sp40, sp46]
    repeat refine And.intro (by first | omega | grind) ?_
    refine AWp.cond rfl (fun h2 => ?_) fun h2 => ?_
    · try simp at h2
      refine AWp.region hV ?_
      simp [sp45, sp40, sp46]
      repeat refine And.intro (by first | omega | grind) ?_
      try simp only [thenQ, inBlockQ]
      refine AWp.seqKL hV [2] ?_
      simp [sp45, sp40, sp46]
      repeat refine And.intro (by first | omega | grind) ?_
      refine AWp.ret ?_
      simp [retOk, resT, thenQ, inBlockQ, eventOk, *]
      all_goals first | omega | grind
    · try simp at h2
      refine AWp.seqKL hV [1, 3, 4, 29] ?_
      simp [sp45, sp40, sp46]
      repeat refine And.intro (by first | omega | grind) ?_
      refine AWp.cond rfl (fun h3 => ?_) fun h3 => ?_
      · try simp at h3
        refine AWp.region hV ?_
        simp [sp45, sp40, sp46]
        repeat refine And.intro (by first | omega | grind) ?_
        try simp only [thenQ, inBlockQ]
        refine AWp.seqKL hV [2] ?_
        simp [sp45, sp40, sp46]
        repeat refine And.intro (by first | omega | grind) ?_
        refine AWp.ret ?_
        simp [retOk, resT, thenQ, inBlockQ, eventOk, *]
        all_goals first | omega | grind
      · try simp at h3
        refine AWp.skip ?_
        try simp only [thenQ, inBlockQ]
        refine AWp.seqKL hV [2] ?_
        simp [sp45, sp40, sp46]
        repeat refine And.intro (by first | omega | grind) ?_
        refine AWp.ret ?_
        simp [retOk, resT, thenQ, inBlockQ, eventOk, *]
        all_goals first | omega | grind

def sp26 : Eva.Spec := spec1 (fun (e : Event) => True) fun (e : Event) => enc (wrongE e)
theorem ok26 : SpecOk Try.prog 26 sp26 := by
  have hV : VOk Try.prog (env [(27, sp27)]) := env_ok ⟨ok27, trivial⟩
  refine SpecOk.of1 (Enters.of Try.func26 (by decide)) fun e hp => ?_
  refine PureCon.of hV Try.func26 rfl (by rw [Try.ntmps26]; simp) fun w0 I0 => ?_
  rw [Try.ntmps26]
  refine AWp.seqKL hV [1] ?_
  simp [sp27]
  repeat refine And.intro (by first | omega | grind) ?_
  refine AWp.seqKL hV [2] ?_
  simp [sp27]
  repeat refine And.intro (by first | omega | grind) ?_
  refine AWp.ret ?_
  simp [retOk, resT, thenQ, inBlockQ, wrongE, *]
  all_goals first | omega | grind

def sp47 : Eva.Spec := spec2 (fun (l : List Event) (f : Eva.Fn) => l.length ≤ 1000000000 ∧ f = ⟨26⟩) fun (l : List Event) (f : Eva.Fn) => enc (idxI wrongE l)
theorem ok47 : SpecOk Try.prog 47 sp47 := by
  have hV : VOk Try.prog (env [(26, sp26)]) := env_ok ⟨ok26, trivial⟩
  refine SpecOk.of2 (Enters.of Try.func47 (by decide)) fun l f hp => ?_
  obtain ⟨hp, rfl⟩ := hp
  refine PureCon.of hV Try.func47 rfl (by rw [Try.ntmps47]; simp) fun w0 I0 => ?_
  rw [Try.ntmps47]
  refine AWp.seqKL hV [0, 1] ?_
  simp [sp26]
  repeat refine And.intro (by first | omega | grind) ?_
  refine AWp.seq ?_
  refine AWp.seqKL hV [0, 1, 7, 8] ?_
  simp [sp26]
  repeat refine And.intro (by first | omega | grind) ?_
  refine AWp.block ?_
  refine AWp.loop (X := Nat) (fun z => ⟨[(0, .d (enc l)), (1, .d (.fn 26)), (7, .d (.int .i64 l.length)), (8, .d (.int .i64 (z : Int)))], []⟩) (fun z => z ≤ l.length ∧ (l.take z).any wrongE = false) (fun z => l.length - z) (0) ?_ ?_ fun z hz => ?_
  · simp
  · refine Sub.ren [] (by decide) ?_ ?_ <;> simp [renL, AO.ren, forgetsR, T.ren, idx]
  refine AWp.seqKL hV [0, 1, 7, 8, 9] ?_
  simp [sp26]
  repeat refine And.intro (by first | omega | grind) ?_
  refine AWp.seq ?_
  refine AWp.cond rfl (fun h1 => ?_) fun h1 => ?_
  · try simp at h1
    obtain ⟨x, hx⟩ := ex_get h1
    have hs := any_take_succ (p := wrongE) hx
    refine AWp.skip ?_
    try simp only [thenQ, inBlockQ]
    refine AWp.seq ?_
    refine AWp.block ?_
    refine AWp.seqKL hV [0, 1, 5, 7, 8] ?_
    simp [sp26, elAt_enc hx]
    repeat refine And.intro (by first | omega | grind) ?_
    refine AWp.seqKL hV [0, 1, 5, 7, 8, 16] ?_
    simp [sp26, elAt_enc hx]
    repeat refine And.intro (by first | omega | grind) ?_
    refine AWp.cond rfl (fun h2 => ?_) fun h2 => ?_
    · try simp at h2
      have hi := idxI_at hz.2 hx h2
      refine AWp.seqKL hV [4] ?_
      simp [sp26, elAt_enc hx]
      repeat refine And.intro (by first | omega | grind) ?_
      refine AWp.ret ?_
      simp [retOk, resT, thenQ, inBlockQ, elAt_enc hx, *]
      all_goals first | omega | grind
    · try simp at h2
      refine AWp.skip ?_
      try simp only [thenQ, inBlockQ]
      refine AWp.region hV ?_
      simp [sp26, elAt_enc hx]
      repeat refine And.intro (by first | omega | grind) ?_
      try simp only [thenQ, inBlockQ]
      refine ⟨z + 1, ?_, ?_, Sub.ren [] (by decide) ?_ ?_⟩
      · first | omega | grind
      · first | omega | grind
      · simp [renL, AO.ren, T.ren, idx, elAt_enc hx]
      · simp [forgetsR, T.ren, idx, elAt_enc hx] <;> omega
  · try simp at h1
    have hi := idxI_end hz.2 h1
    refine AWp.exit ?_
    simp [thenQ, inBlockQ]
    try simp only [thenQ, inBlockQ]
    refine AWp.seqKL hV [4] ?_
    simp [sp26]
    repeat refine And.intro (by first | omega | grind) ?_
    refine AWp.ret ?_
    simp [retOk, resT, thenQ, inBlockQ, *]
    all_goals first | omega | grind

def sp28 : Eva.Spec := spec2 (fun (l : List Event) (f : Eva.Fn) => l.length ≤ 1000000000 ∧ f = ⟨26⟩) fun (l : List Event) (f : Eva.Fn) => enc (l.any wrongE)
theorem ok28 : SpecOk Try.prog 28 sp28 := by
  have hV : VOk Try.prog (env [(47, sp47)]) := env_ok ⟨ok47, trivial⟩
  refine SpecOk.of2 (Enters.of Try.func28 (by decide)) fun l f hp => ?_
  obtain ⟨hp, rfl⟩ := hp
  have hi := idxI_any wrongE l
  refine PureCon.of hV Try.func28 rfl (by rw [Try.ntmps28]; simp) fun w0 I0 => ?_
  rw [Try.ntmps28]
  refine AWp.seqKL hV [0, 1] ?_
  simp [sp47]
  repeat refine And.intro (by first | omega | grind) ?_
  refine AWp.seqKL hV [4] ?_
  simp [sp47]
  repeat refine And.intro (by first | omega | grind) ?_
  refine AWp.ret ?_
  simp [retOk, resT, thenQ, inBlockQ, *]
  all_goals first | omega | grind

def sp34 : Eva.Spec := spec1 (fun (l : List Event) => l.length ≤ 1000000000) fun (l : List Event) => enc (l.all eventOk)
theorem ok34 : SpecOk Try.prog 34 sp34 := by
  have hV : VOk Try.prog (env [(41, sp41)]) := env_ok ⟨ok41, trivial⟩
  refine SpecOk.of1 (Enters.of Try.func34 (by decide)) fun l hp => ?_
  refine PureCon.of hV Try.func34 rfl (by rw [Try.ntmps34]; simp) fun w0 I0 => ?_
  rw [Try.ntmps34]
  refine AWp.seqKL hV [0] ?_
  simp [sp41]
  repeat refine And.intro (by first | omega | grind) ?_
  refine AWp.seq ?_
  refine AWp.seqKL hV [0, 3] ?_
  simp [sp41]
  repeat refine And.intro (by first | omega | grind) ?_
  refine AWp.block ?_
  refine AWp.loop (X := Nat) (fun z => ⟨[(0, .d (enc l)), (3, .d (.int .i64 (z : Int)))], []⟩) (fun z => z ≤ l.length ∧ (l.take z).all eventOk = true) (fun z => l.length - z) (0) ?_ ?_ fun z hz => ?_
  · simp
  · refine Sub.ren [] (by decide) ?_ ?_ <;> simp [renL, AO.ren, forgetsR, T.ren, idx]
  refine AWp.seq ?_
  refine AWp.seqKL hV [0, 3, 8] ?_
  simp [sp41]
  repeat refine And.intro (by first | omega | grind) ?_
  refine AWp.cond rfl (fun h1 => ?_) fun h1 => ?_
  · try simp at h1
    obtain ⟨x, hx⟩ := ex_get h1
    have hs := all_take_succ (p := eventOk) hx
    refine AWp.skip ?_
    try simp only [thenQ, inBlockQ]
    refine AWp.seq ?_
    refine AWp.block ?_
    refine AWp.seqKL hV [0, 3, 4] ?_
    simp [sp41, elAt_enc hx]
    repeat refine And.intro (by first | omega | grind) ?_
    refine AWp.seqKL hV [0, 3, 17] ?_
    simp [sp41, elAt_enc hx]
    repeat refine And.intro (by first | omega | grind) ?_
    refine AWp.cond rfl (fun h2 => ?_) fun h2 => ?_
    · try simp at h2
      have hf := all_false_of hx h2
      refine AWp.seqKL hV [2] ?_
      simp [sp41, elAt_enc hx]
      repeat refine And.intro (by first | omega | grind) ?_
      refine AWp.ret ?_
      simp [retOk, resT, thenQ, inBlockQ, elAt_enc hx, *]
      all_goals first | omega | grind
    · try simp at h2
      refine AWp.skip ?_
      try simp only [thenQ, inBlockQ]
      refine AWp.region hV ?_
      simp [sp41, elAt_enc hx]
      repeat refine And.intro (by first | omega | grind) ?_
      try simp only [thenQ, inBlockQ]
      refine ⟨z + 1, ?_, ?_, Sub.ren [] (by decide) ?_ ?_⟩
      · first | omega | grind
      · first | omega | grind
      · simp [renL, AO.ren, T.ren, idx, elAt_enc hx]
      · simp [forgetsR, T.ren, idx, elAt_enc hx] <;> omega
  · try simp at h1
    have he := all_take_end (p := eventOk) h1
    refine AWp.exit ?_
    simp [thenQ, inBlockQ]
    try simp only [thenQ, inBlockQ]
    refine AWp.seqKL hV [2] ?_
    simp [sp41]
    repeat refine And.intro (by first | omega | grind) ?_
    refine AWp.ret ?_
    simp [retOk, resT, thenQ, inBlockQ, *]
    all_goals first | omega | grind

def sp21 : Eva.Spec := spec1 (fun (l : List Event) => l.length ≤ 1000000000) fun (l : List Event) => enc (decide (l.length ≤ 60) && l.all eventOk)
theorem ok21 : SpecOk Try.prog 21 sp21 := by
  have hV : VOk Try.prog (env [(10, sp10), (41, sp41)]) := env_ok ⟨ok10, ok41, trivial⟩
  refine SpecOk.of1 (Enters.of Try.func21 (by decide)) fun l hp => ?_
  refine PureCon.of hV Try.func21 rfl (by rw [Try.ntmps21]; simp) fun w0 I0 => ?_
  rw [Try.ntmps21]
  refine AWp.seqKL hV [0] ?_
  simp [sp10, sp41]
  repeat refine And.intro (by first | omega | grind) ?_
  refine AWp.seq ?_
  refine AWp.seqKL hV [0, 7] ?_
  simp [sp10, sp41]
  repeat refine And.intro (by first | omega | grind) ?_
  refine AWp.cond rfl (fun h1 => ?_) fun h1 => ?_
  · try simp at h1
    refine AWp.seqKL hV [2] ?_
    simp [sp10, sp41]
    repeat refine And.intro (by first | omega | grind) ?_
    refine AWp.ret ?_
    simp [retOk, resT, thenQ, inBlockQ, *]
    all_goals first | omega | grind
  · try simp at h1
    refine AWp.skip ?_
    try simp only [thenQ, inBlockQ]
    refine AWp.seq ?_
    refine AWp.seqKL hV [8, 9, 10] ?_
    simp [sp10, sp41]
    repeat refine And.intro (by first | omega | grind) ?_
    refine AWp.block ?_
    refine AWp.loop (X := Nat) (fun z => ⟨[(8, .d (enc l)), (9, .d (.int .i64 l.length)), (10, .d (.int .i64 (z : Int)))], []⟩) (fun z => z ≤ l.length ∧ (l.take z).all eventOk = true) (fun z => l.length - z) (0) ?_ ?_ fun z hz => ?_
    · simp
    · refine Sub.ren [] (by decide) ?_ ?_ <;> simp [renL, AO.ren, forgetsR, T.ren, idx]
    refine AWp.seqKL hV [8, 9, 10, 11] ?_
    simp [sp10, sp41]
    repeat refine And.intro (by first | omega | grind) ?_
    refine AWp.seq ?_
    refine AWp.cond rfl (fun h2 => ?_) fun h2 => ?_
    · try simp at h2
      obtain ⟨x, hx⟩ := ex_get h2
      have hs := all_take_succ (p := eventOk) hx
      refine AWp.skip ?_
      try simp only [thenQ, inBlockQ]
      refine AWp.seq ?_
      refine AWp.block ?_
      refine AWp.seqKL hV [4, 8, 9, 10] ?_
      simp [sp10, sp41, elAt_enc hx]
      repeat refine And.intro (by first | omega | grind) ?_
      refine AWp.seqKL hV [8, 9, 10, 16] ?_
      simp [sp10, sp41, elAt_enc hx]
      repeat refine And.intro (by first | omega | grind) ?_
      refine AWp.cond rfl (fun h3 => ?_) fun h3 => ?_
      · try simp at h3
        have hf := all_false_of hx h3
        refine AWp.seqKL hV [2] ?_
        simp [sp10, sp41, elAt_enc hx]
        repeat refine And.intro (by first | omega | grind) ?_
        refine AWp.ret ?_
        simp [retOk, resT, thenQ, inBlockQ, elAt_enc hx, *]
        all_goals first | omega | grind
      · try simp at h3
        refine AWp.skip ?_
        try simp only [thenQ, inBlockQ]
        refine AWp.region hV ?_
        simp [sp10, sp41, elAt_enc hx]
        repeat refine And.intro (by first | omega | grind) ?_
        try simp only [thenQ, inBlockQ]
        refine ⟨z + 1, ?_, ?_, Sub.ren [] (by decide) ?_ ?_⟩
        · first | omega | grind
        · first | omega | grind
        · simp [renL, AO.ren, T.ren, idx, elAt_enc hx]
        · simp [forgetsR, T.ren, idx, elAt_enc hx] <;> omega
    · try simp at h2
      have he := all_take_end (p := eventOk) h2
      refine AWp.exit ?_
      simp [thenQ, inBlockQ]
      try simp only [thenQ, inBlockQ]
      refine AWp.seqKL hV [2] ?_
      simp [sp10, sp41]
      repeat refine And.intro (by first | omega | grind) ?_
      refine AWp.ret ?_
      simp [retOk, resT, thenQ, inBlockQ, *]
      all_goals first | omega | grind
end Go.Proofs.Ytpbhcpeilgmkeaa
