/-
  The evaluator, the printed walks and the plain laws, part 2 of 12.
-/
import Derived.Test.YtpbhcpeilgmkeaaX1
import Derived.Maps.RangeRun
import Derived.Laws.IdiomStrings
import Derived.MapKept
set_option linter.all false
set_option linter.unnecessarySimpa false
set_option linter.deprecated false
set_option linter.unusedVariables false
set_option linter.unusedSimpArgs false
set_option linter.unusedSectionVars false

/-
  Eva, part Fa: an own row's content turns in place (a store of an element; what a callee does to it).
-/
namespace Go.Eva
open Go Go.RowKit
variable [Drw]

section
variable {P : Program} {V : Env} {w0 w : World} {I0 I : Imm} {m : Nat → Value} {l L : List AO}

theorem flat_set {size : Nat} : ∀ (els : List D) (k : Nat) (x : D), (∀ d ∈ els, d.cells.length = size) → k < els.length → flat (els.set k x) = (flat els).take (k * size) ++ x.cells ++ (flat els).drop (k * size + size)
  | [], k, x, _, hk => by simp at hk
  | d :: els, 0, x, hs, _ => by
    have hd := hs d (by simp)
    simp [flat, ← hd, List.drop_append]
  | d :: els, k + 1, x, hs, hk => by
    have hd := hs d (by simp)
    have ih := flat_set els k x (fun y hy => hs y (by simp [hy])) (by simpa using hk)
    have e1 : (k + 1) * size = d.cells.length + k * size := by rw [hd, Nat.succ_mul, Nat.add_comm]
    have e2 : flat (d :: els) = d.cells ++ flat els := by simp [flat]
    have e3 : flat (d :: els.set k x) = d.cells ++ flat (els.set k x) := by simp [flat]
    rw [List.set_cons_succ, e3, ih, e2, e1, List.take_append, List.drop_append]
    simp [List.take_of_length_le, Nat.add_sub_cancel_left, List.append_assoc, show d.cells.length + k * size + size - d.cells.length = k * size + size by omega, List.drop_of_length_le (show d.cells.length ≤ d.cells.length + k * size + size by omega)]

theorem take_mid {α : Type} (A V : List α) (p s N : Nat) (h1 : p + s ≤ N) (h2 : N ≤ A.length) (hv : V.length = s) : (A.take p ++ V ++ A.drop (p + s)).take N = (A.take N).take p ++ V ++ (A.take N).drop (p + s) := by
  apply List.ext_getElem?
  intro i
  simp only [List.getElem?_take, List.getElem?_append, List.length_append, List.length_take, List.getElem?_drop, hv, Nat.min_eq_left (show p ≤ A.length by omega), Nat.min_eq_left h2, Nat.min_eq_left (show p ≤ N by omega)]
  by_cases a : i < N
  · by_cases b : i < p
    · simp [a, b, show i < p + s by omega]
    · by_cases c : i < p + s
      · simp [a, b, c]
      · simp [a, b, c, show p + s + (i - (p + s)) < N by omega]
  · simp [a, show ¬ i < p by omega, show ¬ i < p + s by omega, show ¬ p + s + (i - (p + s)) < N by omega]
/-- An own row's cells are turned in the world. -/
theorem WRel.turnRow (hrel : WRel w0 I0 w I m l) {id b e size n c : Nat} {els els' : List D} {cur new : Array Value} {xs : List Value} (ho : l[id]? = some (.row e size els)) (hm : m id = .slice (some ⟨b, 0, none⟩) n c)
    (hw : w.heap[b]? = some (.cells cur e (0, 0))) (hrow : (w.setRow b new).ownsRow w0.heap.size e size (.slice (some ⟨b, 0, none⟩) n c) els'.length xs)
    (hs : ∀ d ∈ els', d.cells.length = size ∧ ∀ x ∈ d.cells, x.one = true) (hrd : ∀ (j : Nat) x y, xs[j]? = some x → (flat els')[j]? = some y → Rd I x y) :
    Le I m l I m (l.set id (.row e size els')) ∧ WRel w0 I0 (w.setRow b new) I m (l.set id (.row e size els')) := by
  obtain ⟨xs0, k1, k2, k3, k4⟩ := hrel.obj id _ ho
  have hidl : id < l.length := (List.getElem?_eq_some_iff.1 ho).1
  have hno : I.noB b := k4 b (by rw [hm]; rfl)
  have hge : w0.heap.size ≤ b := ((hrel.obj id _ ho).lt (by simp) (by rw [hm]; rfl)).2
  have hle : Le I m l I m (l.set id (.row e size els')) := by
    refine ⟨.refl I, by simp, fun k _ hk => ⟨(isVar_set (o' := .row e size els') ho rfl k).trans hk, rfl⟩, fun k _ hk => ⟨(isRow_set (o' := .row e size els') ho rfl k).symm.trans hk, rfl⟩, fun k e' size' elsx hk hh => ?_⟩
    by_cases hki : k = id
    · subst hki; rw [List.getElem?_set, if_pos rfl, if_pos hidl] at hh
      rcases hh with hh | hh
      · injection hh with hh; injection hh with h1 h2 h3; subst h1; subst h2; exact ⟨els, .inl ho⟩
      · cases hh
    · rw [List.getElem?_set, if_neg (Ne.symm hki)] at hh; exact ⟨elsx, hh⟩
  refine ⟨hle, ⟨hrel.below.trans ⟨rfl, rfl, rfl, by simp [World.setRow], fun k hk => setRow_other w b _ new (by omega), fun _ => Nat.le_refl _⟩, ⟨fun b' o u hc => ?_, fun b' es hc => ?_⟩, hrel.ext, fun j o hj => ?_, fun i j b' hij hi hj hbi hbj => ?_⟩⟩
  · have hne : b' ≠ b := by rintro rfl; rw [hno.1] at hc; cases hc
    exact (World.cell?_of_block (w := w) (a := ⟨b', o, none⟩) (setRow_other w b _ new hne)).trans (hrel.sat.cell b' o u hc)
  · have hne : b' ≠ b := by rintro rfl; rw [hno.2] at hc; cases hc
    have hh := hrel.sat.mp b' es hc
    exact MapAt.to (setRow_other w b _ new hne) hh
  · by_cases hji : j = id
    · subst hji
      rw [List.getElem?_set, if_pos rfl, if_pos hidl] at hj
      injection hj with hj; subst hj
      rw [hm]
      exact ⟨xs, hrow, hs, hrd, fun b' hb' => by injection hb' with hb'; subst hb'; exact hno⟩
    · rw [List.getElem?_set, if_neg (Ne.symm hji)] at hj
      by_cases hd : o = .dead
      · subst hd; trivial
      · refine (hrel.obj j o hj).keep hle (fun b' hb' => setRow_other w b _ new ?_) (fun _ _ => ⟨rfl, rfl⟩)
        rintro rfl
        exact hrel.sep j id b' hji (alive_iff.2 ⟨o, hj, hd⟩) (alive_iff.2 ⟨_, ho, by simp⟩) hb' (by rw [hm]; rfl)
  · refine hrel.sep i j b' hij ?_ ?_ hbi hbj
    · unfold alive at hi ⊢; rwa [isVar_set (o' := .row e size els') ho rfl, isRow_set (o' := .row e size els') ho rfl] at hi
    · unfold alive at hj ⊢; rwa [isVar_set (o' := .row e size els') ho rfl, isRow_set (o' := .row e size els') ho rfl] at hj

theorem rowStore_ok (hE : TOk P V.E) (hrel : WRel w0 I0 w I m l) {id k : Nat} {ty e size : Nat} {els : List D} {x : D} {v : Value} {a : Addr} (ho : l[id]? = some (.row e size els)) (ha : RdT I m l (.pointer (some a)) (.rptr id k 0))
    (hx : Rd I v x) (hc : x.cells.length = size) (h1 : x.cells.all D.one = true) (hk : k < els.length) (hn : x.cells.length = sizeE V.E ty) (hpos : 0 < x.cells.length) :
    ∃ w', (Instr.storeAt ty (.pointer (some a)) v).run P w = .ok () w' ∧ Le I m l I m (l.set id (.row e size (els.set k x))) ∧ WRel w0 I0 w' I m (l.set id (.row e size (els.set k x))) := by
  obtain ⟨b, n, c, hm, hav⟩ : ∃ b n c, m id = .slice (some ⟨b, 0, none⟩) n c ∧ a = ⟨b, k * size + 0, none⟩ := by
    cases ha with
    | rptr _ _ _ _ q1 q2 => exact q2 e size els (.inl ho)
  subst hav
  obtain ⟨xs, k1, k2, k3, k4⟩ := hrel.obj id _ ho
  rw [hm] at k1
  obtain ⟨hxl, hcase⟩ := k1
  rcases hcase with ⟨hv, _⟩ | ⟨g, cap, cur, hv, hb, hg, hnc, hcap, hcs, htk⟩
  · cases hv
  injection hv with hv1 hv2 hv3
  injection hv1 with hv1; injection hv1 with hv1; subst hv1; subst hv2; subst hv3
  have ht : ∀ ds, x ≠ .tup ds := fun ds e => by subst e; simp [D.cells, D.one] at h1
  obtain ⟨q1, q2, q3⟩ := hx.cells ht
  have hone : ∀ u ∈ v.cells.toList, u.oneCell' = true := by
    intro u hu
    obtain ⟨i, hi, rfl⟩ := List.mem_iff_getElem.1 hu
    have hi' : i < x.cells.length := by simp at hi; omega
    exact (q3 i _ x.cells[i] (by rw [← Array.getElem?_toList]; exact List.getElem?_eq_getElem hi) (List.getElem?_eq_getElem hi')).one (q2 _ (List.getElem_mem hi'))
  have hvl : v.cells.toList.length = size := by simp [q1, hc]
  have hmul : k * size + size ≤ els.length * size := by
    have : (k + 1) * size ≤ els.length * size := Nat.mul_le_mul_right _ hk
    rw [Nat.succ_mul] at this; exact this
  have hmul2 : els.length * size ≤ cur.size := by rw [hcs]; exact Nat.mul_le_mul_right _ hnc
  have hsize : (sizeOf ty).run P w = .ok v.cells.size w := by
    cases hi : V.E ty with
    | none => simp only [sizeE, hi, Option.map_none, Option.getD_none] at hn; omega
    | some i =>
      rw [run_sizeOf_ti hE hi w]
      simp only [sizeE, hi, Option.map_some, Option.getD_some] at hn
      congr 1; omega
  have hst := run_storeCells_at P b (k * size) e v.cells.toList 0 cur w hg (by rw [hvl]; omega) hone
  refine ⟨_, by simp only [Instr.storeAt, Instr.sureAddr, Sem.run_bind, Sem.run_pure, Result.andThen_ok, storeVar, hsize, ne_eq, not_true_eq_false, if_false, Nat.add_zero]; exact hst, ?_⟩
  simp only [Nat.add_zero, hvl]
  generalize hnew : (cur.toList.take (k * size) ++ v.cells.toList ++ cur.toList.drop (k * size + size)).toArray = new
  have hnl : new.toList = cur.toList.take (k * size) ++ v.cells.toList ++ cur.toList.drop (k * size + size) := by subst hnew; simp
  have hns : new.size = cur.size := by
    rw [← Array.length_toList, hnl]
    simp only [List.length_append, List.length_take, List.length_drop, Array.length_toList, hvl] at *
    omega
  have hxs' : new.toList.take (els.length * size) = xs.take (k * size) ++ v.cells.toList ++ xs.drop (k * size + size) := by
    rw [hnl, ← htk]
    exact take_mid _ _ _ _ _ hmul (by rw [Array.length_toList]; exact hmul2) hvl
  refine hrel.turnRow (n := els.length) (c := c) (cur := cur) (xs := xs.take (k * size) ++ v.cells.toList ++ xs.drop (k * size + size)) ho hm hg ⟨?_, .inr ⟨b, c, new, ?_, hb, setRow_heap w b cur new e (0, 0) hg, ?_, hcap, by rw [hns, hcs], ?_⟩⟩ ?_ ?_
  · simp only [List.length_append, List.length_take, List.length_drop, hxl, hvl, List.length_set]; omega
  · simp
  · simpa using hnc
  · rw [List.length_set]; exact hxs'
  · intro d hd
    rcases List.mem_or_eq_of_mem_set hd with hd | rfl
    · exact k2 d hd
    · exact ⟨hc, q2⟩
  · intro j u y hu hy
    rw [flat_set els k x (fun d hd => (k2 d hd).1) hk] at hy
    have hfl : (flat els).length = els.length * size := flat_len els (fun d hd => (k2 d hd).1)
    rw [List.append_assoc, List.getElem?_append] at hu hy
    have l1 : (xs.take (k * size)).length = k * size := by rw [List.length_take]; omega
    have l2 : ((flat els).take (k * size)).length = k * size := by rw [List.length_take]; omega
    rw [l1] at hu; rw [l2] at hy
    by_cases hj : j < k * size
    · rw [if_pos hj] at hu hy
      rw [List.getElem?_take, if_pos hj] at hu hy
      exact k3 j u y hu hy
    · rw [if_neg hj] at hu hy
      rw [List.getElem?_append] at hu hy
      rw [hvl] at hu; rw [hc] at hy
      by_cases hj2 : j - k * size < size
      · rw [if_pos hj2] at hu hy
        exact q3 _ u y (by simpa using hu) hy
      · rw [if_neg hj2] at hu hy
        rw [List.getElem?_drop] at hu hy
        exact k3 _ u y hu hy
end
end Go.Eva

/-
  Eva, part K: struct and slice literals, appends, calls; the whole.
-/
namespace Go.Eva
open Go Go.RowKit
variable [Drw]

/-- Cells and data, side by side. -/
def Cells (I : Imm) (vs : List Value) (ds : List D) : Prop := vs.length = ds.length ∧ (∀ d ∈ ds, d.one = true) ∧ ∀ (i : Nat) v d, vs[i]? = some v → ds[i]? = some d → Rd I v d

theorem Cells.set {I : Imm} {vs xs : List Value} {ds ys : List D} {off : Nat} (h : Cells I vs ds) (k : Cells I xs ys) (hle : off + ys.length ≤ ds.length) :
    Cells I (vs.take off ++ xs ++ vs.drop (off + xs.length)) (setAt ds off ys) := by
  obtain ⟨h1, h2, h3⟩ := h
  obtain ⟨k1, k2, k3⟩ := k
  refine ⟨by simp [setAt]; omega, fun d hd => ?_, fun i v d hv hd => ?_⟩
  · simp only [setAt, List.mem_append] at hd
    rcases hd with (hd | hd) | hd
    · exact h2 d (List.mem_of_mem_take hd)
    · exact k2 d hd
    · exact h2 d (List.mem_of_mem_drop hd)
  · have l1 : (vs.take off).length = off := by simp; omega
    have l2 : (ds.take off).length = off := by simp; omega
    rw [List.append_assoc, List.getElem?_append, l1] at hv
    rw [setAt, List.append_assoc, List.getElem?_append, l2] at hd
    by_cases hi : i < off
    · rw [if_pos hi, List.getElem?_take, if_pos hi] at hv hd
      exact h3 i v d hv hd
    · rw [if_neg hi, List.getElem?_append] at hv hd
      rw [k1] at hv
      by_cases hi2 : i - off < ys.length
      · rw [if_pos hi2] at hv hd; exact k3 _ v d hv hd
      · rw [if_neg hi2, List.getElem?_drop] at hv hd; exact h3 _ v d hv hd

section
variable {P : Program} {V : Env} {w0 w : World} {I0 I : Imm} {m : Nat → Value} {l L : List AO} {nid : Nat} {o : Oper} {ρ : Operand → Value} {ρT : Operand → T}

theorem rd_cells {v : Value} {d : D} (h : Rd I v d) (hone : d.cells.all D.one = true) : Cells I v.cells.toList d.cells := by
  have ht : ∀ ds, d ≠ .tup ds := fun ds e => by subst e; simp [D.cells, D.one] at hone
  obtain ⟨q1, q2, q3⟩ := h.cells ht
  exact ⟨by simpa using q1, q2, fun i u x hu hx => q3 i u x (by simpa using hu) hx⟩

theorem fill_ok (E : TEnv) (place : Nat → Option (Nat × Nat)) : ∀ (parts : List (Nat × Operand)) (cells : Array Value) (ds ds' : List D), Cells I cells.toList ds → (∀ p ∈ parts, RdT I m L (ρ p.2) (ρT p.2)) →
    fillD E place ds (parts.map fun p => (p.1, ρT p.2)) = some ds' → ∃ cells', Instr.fill place cells (parts.map fun p => (p.1, ρ p.2)) = some cells' ∧ Cells I cells'.toList ds'
  | [], cells, ds, ds', hc, _, h => by
    simp [fillD] at h; subst h
    exact ⟨cells, rfl, hc⟩
  | p :: parts, cells, ds, ds', hc, hr, h => by
    simp only [List.map_cons, fillD] at h
    cases hx : unD1 (ρT p.2) with
    | none => simp [hx] at h
    | some x =>
      cases hp : place p.1 with
      | none => simp [hx, hp] at h
      | some os =>
        obtain ⟨off, size⟩ := os
        simp only [hx, hp] at h
        split at h
        · rename_i hle
          have hrd := rd_unD1 (hr p (by simp)) hx
          have hone : x.cells.all D.one = true := hle.2.2
          have hcx := rd_cells hrd hone
          have hsz : (ρ p.2).cells.size = size := by have := hcx.1; simp at this; omega
          have hle2 : off + (ρ p.2).cells.size ≤ cells.size := by have := hc.1; simp at this; omega
          obtain ⟨g1, g2⟩ := Great.foldl_set off (ρ p.2).cells.toList 0 cells
          generalize hcs : ((ρ p.2).cells.toList.zipIdx 0).foldl (fun cs (x : Value × Nat) => cs.setIfInBounds (off + x.2) x.1) cells = cs at *
          have hlist : cs.toList = cells.toList.take off ++ (ρ p.2).cells.toList ++ cells.toList.drop (off + (ρ p.2).cells.toList.length) := by
            apply List.ext_getElem?
            intro k
            have := g2 k
            rw [Array.getElem?_toList, this]
            have l1 : (cells.toList.take off).length = off := by simp; omega
            rw [List.append_assoc, List.getElem?_append, l1, List.getElem?_append]
            simp only [Nat.add_zero, Array.length_toList]
            by_cases h1 : k < off
            · rw [if_neg (by omega), if_pos h1, List.getElem?_take, if_pos h1]; simp
            · rw [if_neg h1]
              by_cases h2 : k - off < (ρ p.2).cells.size
              · rw [if_pos (by omega), if_pos h2]
              · rw [if_neg (by omega), if_neg h2, List.getElem?_drop]
                rw [show off + (ρ p.2).cells.size + (k - off - (ρ p.2).cells.size) = k by omega]; simp
          obtain ⟨cells', hf, hcc⟩ := fill_ok E place parts cs (setAt ds off x.cells) ds' (by rw [hlist]; exact hc.set hcx (by have := hc.1; simp at this; omega)) (fun q hq => hr q (by simp [hq])) h
          refine ⟨cells', ?_, hcc⟩
          simp only [List.map_cons]
          unfold Instr.fill
          simp only [hp]
          rw [if_neg (by simp [hsz]; omega), ← hf]
          congr 1
          rw [← hcs, ← Array.foldl_toList, Array.toList_zipIdx]
        · cases h

theorem build_ok (hE : TOk P V.E) {t : TypeId} {sz bt : Nat} {z ds : List D} {fs : List (Nat × TypeId)} {parts : Array (Nat × Operand)} (hs : V.E t = some ⟨sz, bt, z, .struct fs⟩) (hr : ∀ p ∈ parts.toList, RdT I m L (ρ p.2) (ρT p.2))
    (hf : fillD V.E (placeS V.E fs) z (parts.toList.map fun p => (p.1, ρT p.2)) = some ds) (hall : ∀ f ∈ fs, (V.E f.2).isSome = true) :
    ∃ u, (Instr.build t (parts.map fun (i, x) => (i, ρ x))).run P w = .ok u w ∧ Rd I u (.agg ds) := by
  obtain ⟨gs, hu, rfl⟩ := underlying_struct hE hs
  obtain ⟨x, zv, h1, h2, h3, h4, h5, h6, h7, h8⟩ := tiOk_parts (hE t _ hs)
  have hc : Cells I zv.cells.toList z := zerosOk_rd I _ _ h5
  obtain ⟨cells', hf', hcc⟩ := fill_ok (ρ := ρ) (ρT := ρT) (m := m) (L := L) V.E (placeS V.E _) parts.toList zv.cells z ds hc hr hf
  have hpl : ∀ gs' : List Field, (∀ f ∈ gs'.map (fun f => (f.offset, f.type)), (V.E f.2).isSome = true) → gs'.mapM (fun f => (P.info? f.type).map fun i => (f.offset, i.size)) = some (gs'.map fun f => (f.offset, sizeE V.E f.type)) := by
    intro gs' hg
    induction gs' with
    | nil => rfl
    | cons f gs' ih =>
      obtain ⟨i, hi⟩ := Option.isSome_iff_exists.1 (hg (f.offset, f.type) (by simp))
      obtain ⟨x', _, k1, k2, _⟩ := tiOk_parts (hE _ _ hi)
      have e1 : (P.info? f.type).map (fun i => (f.offset, i.size)) = some (f.offset, sizeE V.E f.type) := by
        simp only at hi
        simp [k1, k2, sizeE, hi]
      simp only [List.mapM_cons, e1, ih (fun q hq => hg q (by simp at hq ⊢; exact .inr hq)), List.map_cons]
      rfl
  have hb : P.built t (parts.map fun (i, x) => (i, ρ x)).toList = some cells' := by
    unfold Program.built
    simp only [h1, hu, h4, hpl gs.toList hall]
    rw [← hf']
    have e1 : (parts.map fun (i, x) => (i, ρ x)).toList = parts.toList.map fun p => (p.1, ρ p.2) := by simp
    rw [e1]
    congr 1
    funext i
    simp only [placeS, List.getElem?_toArray, List.getElem?_map, Option.map_map]
    rfl
  exact ⟨_, run_build w t _ _ hb, .agg _ _ (by have := hcc.1; simpa using this) hcc.2.1 (fun i v d hv hd => hcc.2.2 i v d (by simpa using hv) hd)⟩

/-- A new row whose cells are known for good. -/
theorem WRel.known (hrel : WRel w0 I0 w I m L) (e : TypeId) (cs : Array Value) (size : Nat) (ds : List D) (n : Nat) (hn : ds.length = n) (hs : ∀ d ∈ ds, d.cells.length = size ∧ ∀ x ∈ d.cells, x.one = true) (hlen : cs.size = n * size) (hmax : n ≤ maxLen)
    (hrd : ∀ (j : Nat) x y, cs[j]? = some x → (flat ds)[j]? = some y → Rd I x y) :
    ∃ J, Le I m L J m L ∧ WRel w0 I0 (w.alloc (.cells cs e)) J m L ∧ Rd J (.slice (some ⟨w.heap.size, 0, none⟩) n n) (.slice size ds) := by
  have hno := hrel.sat.noB (Nat.le_refl w.heap.size)
  let J := I.withCells w.heap.size cs.toList
  have hle : I.le J := ⟨fun b o v hc => by
    have hb : b ≠ w.heap.size := by rintro rfl; rw [hno.1 o] at hc; cases hc
    simp [J, Imm.withCells, hb, hc], fun _ _ h => h⟩
  have hout : ∀ b, b ≠ w.heap.size → J.cell b = I.cell b := fun b hb => by funext o; simp [J, Imm.withCells, hb]
  have hsat : SatI (w.alloc (.cells cs e)) J := ⟨fun b o v hc => by
    by_cases hb : b = w.heap.size
    · subst hb
      simp only [J, Imm.withCells, if_true] at hc
      rw [World.cell?_alloc_new]
      cases hx : cs[o]? with
      | none => simp [hx, hno.1 o] at hc
      | some x => simpa [hx] using hc
    · rw [hout b hb] at hc
      rw [World.cell?_alloc_lt w _ _ (hrel.sat.lt hc)]; exact hrel.sat.cell b o v hc, fun b es hc => by
    have hh := hrel.sat.mp b es hc
    exact MapAt.to (Below.heap_alloc w _ b (hrel.sat.ltm hc)) hh⟩
  obtain ⟨r1, r2⟩ := hrel.call (Bel.alloc (Bel.refl _ _) (Nat.le_refl _) _) ⟨hle, fun b hb => hout b (by omega), fun _ _ => rfl⟩ hsat
  refine ⟨J, r2, r1, .slice _ 0 n n size ds (fun k => (cs[k]?).getD undef) hn (Nat.le_refl _) hmax hs (fun k hk => ?_) (fun k x hx => ?_)⟩
  · have : cs[k]? = some (cs[k]'(by omega)) := Array.getElem?_eq_getElem (by omega)
    simp [J, Imm.withCells, this]
  · have hk : k < n * size := by rw [← hn, ← flat_len ds (fun d hd => (hs d hd).1)]; exact (List.getElem?_eq_some_iff.1 hx).1
    have : cs[k]? = some (cs[k]'(by omega)) := Array.getElem?_eq_getElem (by omega)
    rw [this]; exact (hrd k _ x this hx).mono hle

theorem mapM_parts : ∀ (ps : List (Nat × Operand)) (ds : List D), (∀ p ∈ ps, RdT I m L (ρ p.2) (ρT p.2)) → ps.mapM (fun p => unD1 (ρT p.2)) = some ds → ps.length = ds.length ∧ ∀ (i : Nat) p d, ps[i]? = some p → ds[i]? = some d → Rd I (ρ p.2) d
  | [], ds, _, h => by simp at h; subst h; simp
  | p :: ps, ds, hr, h => by
    simp only [List.mapM_cons, Option.bind_eq_bind, Option.bind_eq_some_iff, Option.pure_def, Option.some.injEq] at h
    obtain ⟨x, hx, xs, hxs, rfl⟩ := h
    obtain ⟨h1, h2⟩ := mapM_parts ps xs (fun q hq => hr q (by simp [hq])) hxs
    refine ⟨by simp [h1], fun i q d hq hd => ?_⟩
    rcases i with _ | i
    · simp at hq hd; subst hq; subst hd; exact rd_unD1 (hr p (by simp)) hx
    · simp at hq hd; exact h2 i q d hq hd

theorem buildSlice_ok (hE : TOk P V.E) (hrel : WRel w0 I0 w I m L) {t e : TypeId} {sz bt : Nat} {z : List D} {len : Nat} {parts : Array (Nat × Operand)} {ds : List D} (hs : V.E t = some ⟨sz, bt, z, .slice e⟩)
    (hr : ∀ p ∈ parts.toList, RdT I m L (ρ p.2) (ρT p.2)) (hm : parts.toList.mapM (fun p => unD1 (ρT p.2)) = some ds) (he : (V.E e).isSome = true ∧ 0 < sizeE V.E e) (hlen : len ≠ 0)
    (hc : parts.toList.map (·.1) = List.range len ∧ len * sizeE V.E e ≤ 16777216 ∧ ds.all (fun d => d.cells.length == sizeE V.E e && d.cells.all D.one) = true) :
    ∃ w' J, (Instr.buildSlice t len (parts.map fun (i, x) => (i, ρ x))).run P w = .ok (.slice (some ⟨w.heap.size, 0, none⟩) len len) w' ∧ Le I m L J m L ∧ WRel w0 I0 w' J m L ∧ Rd J (.slice (some ⟨w.heap.size, 0, none⟩) len len) (.slice (sizeE V.E e) ds) := by
  have hu := underlying_slice hE hs
  obtain ⟨hc1, hc3, hc4⟩ := hc
  obtain ⟨i, hi⟩ := Option.isSome_iff_exists.1 he.1
  obtain ⟨x, zv, k1, k2, k3, k4, k5, k6, k7, k8⟩ := tiOk_parts (hE e i hi)
  have hsz : sizeE V.E e = i.size := by simp [sizeE, hi]
  rw [hsz] at hc3 hc4 ⊢
  have hpos : 0 < i.size := by rw [← hsz]; exact he.2
  obtain ⟨p1, p2⟩ := mapM_parts parts.toList ds hr hm
  have hpl : parts.toList.length = len := by have := congrArg List.length hc1; simpa using this
  have hdl : ds.length = len := by omega
  have hall : ∀ d ∈ ds, d.cells.length = i.size ∧ ∀ y ∈ d.cells, y.one = true := fun d hd => by
    have := List.all_eq_true.1 hc4 d hd
    simp only [Bool.and_eq_true, beq_iff_eq, List.all_eq_true] at this
    exact this
  have hcells : ∀ (j : Nat) p d, parts.toList[j]? = some p → ds[j]? = some d → Cells I (ρ p.2).cells.toList d.cells := fun j p d hp hd =>
    rd_cells (p2 j p d hp hd) (List.all_eq_true.2 (hall d (List.mem_of_getElem? hd)).2)
  have hvsz : ∀ v ∈ parts.toList.map (fun p => ρ p.2), v.cells.size = i.size := by
    intro v hv
    obtain ⟨p, hp, rfl⟩ := List.mem_map.1 hv
    obtain ⟨j, hj, rfl⟩ := List.mem_iff_getElem.1 hp
    have hjd : j < ds.length := by omega
    have := (hcells j _ _ (List.getElem?_eq_getElem hj) (List.getElem?_eq_getElem hjd)).1
    have h2 := (hall _ (List.getElem_mem hjd)).1
    rw [Array.length_toList] at this; omega
  obtain ⟨r, hf, hrs, hrk⟩ := Great.fill_dense hpos (parts.toList.map fun p => ρ p.2) 0 ((Array.range (len * i.size)).map (zv.cells[· % zv.cells.size]!)) hvsz (by simp [hpl])
  have hzip : (parts.map fun (i, x) => (i, ρ x)).toList = ((parts.toList.map fun p => ρ p.2).zipIdx 0).map fun x => (x.2, x.1) := by
    apply List.ext_getElem?
    intro j
    simp only [Array.toList_map, List.getElem?_map, List.getElem?_zipIdx, Nat.zero_add, Option.map_map]
    cases hp : parts.toList[j]? with
    | none => simp
    | some p =>
      have hj : j < len := by rw [← hpl]; exact (List.getElem?_eq_some_iff.1 hp).1
      have : (parts.toList.map (·.1))[j]? = some p.1 := by rw [List.getElem?_map, hp]; rfl
      rw [hc1, List.getElem?_range hj] at this
      injection this with this
      simp [this]
  have hrun := run_buildSlice (P := P) w t e len (parts.map fun (i, x) => (i, ρ x)) r x zv hu k1 k4 (by rw [k2]; omega) (by rw [k2]; have := Nat.mul_pos (Nat.pos_of_ne_zero hlen) hpos; omega) (by rw [hzip, k2]; exact hf)
  have hrsize : r.size = len * i.size := by rw [hrs]; simp
  obtain ⟨J, r2, r1, hrd⟩ := hrel.known e r i.size ds len hdl hall hrsize (by unfold maxLen; have : len ≤ len * i.size := Nat.le_mul_of_pos_right _ hpos; omega) (fun j u y hu hy => by
    have hjl : j < len * i.size := by rw [← hrsize]; exact (Array.getElem?_eq_some_iff.1 hu).1
    rw [hrk j, if_pos (by simp [hpl]; exact hjl)] at hu
    simp only [Nat.sub_zero, List.getElem?_map] at hu
    have hq : j / i.size < len := Nat.div_lt_of_lt_mul (by rw [Nat.mul_comm]; exact hjl)
    have hrem : j % i.size < i.size := Nat.mod_lt _ hpos
    have hp : parts.toList[j / i.size]? = some (parts.toList[j / i.size]'(by omega)) := List.getElem?_eq_getElem (by omega)
    have hd : ds[j / i.size]? = some (ds[j / i.size]'(by omega)) := List.getElem?_eq_getElem (by omega)
    rw [hp] at hu
    have hfl := flat_get ds (fun d hd => (hall d hd).1) (j / i.size) (j % i.size) _ hd hrem
    rw [Nat.mul_comm, Nat.div_add_mod] at hfl
    rw [hfl] at hy
    exact (hcells _ _ _ hp hd).2.2 (j % i.size) u y (by simpa using hu) hy)
  exact ⟨_, J, hrun, r2, r1, hrd⟩

/-- An object dies, a new row comes at the end. -/
theorem WRel.push_row (hrel : WRel w0 I0 w I m l) {w' : World} {e size : Nat} {els : List D} {v : Value} {row : Option Nat} {lo : List AO} (hlo : lo.length = l.length) (hdie : ∀ (k : Nat) a, lo[k]? = some a → a = .dead ∨ l[k]? = some a)
    (hvars : ∀ (k : Nat) a, a.isVar = true → l[k]? = some a → lo[k]? = some a)
    (hg : w.grownBy w' row) (hdr : w.drawn ≤ w'.drawn) (hfree : ∀ b, row = some b → w0.heap.size ≤ b ∧ I.noB b ∧ ∀ k, alive lo k = true → own (m k) ≠ some b) (hfresh : ∀ b, own v = some b → w0.heap.size ≤ b ∧ I.noB b ∧ ∀ k, alive lo k = true → own (m k) ≠ some b)
    {xs : List Value} (hrow : w'.ownsRow w0.heap.size e size v els.length xs) (hs : ∀ d ∈ els, d.cells.length = size ∧ ∀ x ∈ d.cells, x.one = true) (hrd : ∀ (j : Nat) x y, xs[j]? = some x → (flat els)[j]? = some y → Rd I x y) (hsl : ∃ A n c, v = .slice A n c) :
    Le I m l I (upd m l.length v) (lo ++ [.row e size els]) ∧ WRel w0 I0 w' I (upd m l.length v) (lo ++ [.row e size els]) ∧ RdT I (upd m l.length v) (lo ++ [.row e size els]) v (.row l.length) := by
  have hget : ∀ k, k < l.length → (lo ++ [AO.row e size els])[k]? = lo[k]? := fun k hk => List.getElem?_append_left (by omega)
  have hlast : (lo ++ [AO.row e size els])[l.length]? = some (.row e size els) := by rw [← hlo]; simp
  have hle : Le I m l I (upd m l.length v) (lo ++ [.row e size els]) := by
    refine ⟨.refl I, by simp; omega, fun id hid hv => ⟨?_, upd_ne m v (by omega)⟩, fun id hid hr => ⟨?_, upd_ne m v (by omega)⟩, fun id e' s' els' hid hh => ?_⟩
    · unfold isVar at hv ⊢; rw [hget id hid]
      cases ho : l[id]? with
      | none => simp [ho] at hv
      | some o =>
        have hv' : o.isVar = true := by simpa [ho] using hv
        rw [hvars id o hv' ho]; exact hv'
    · unfold isRow at hr ⊢; rw [hget id hid] at hr
      cases ho : lo[id]? with
      | none => simp [ho] at hr
      | some o =>
        rcases hdie id o ho with rfl | h
        · simp [ho, AO.isRow] at hr
        · rw [h]; rw [ho] at hr; exact hr
    · rw [hget id hid] at hh
      rcases hh with hh | hh
      · rcases hdie id _ hh with h | h
        · cases h
        · exact ⟨els', .inl h⟩
      · rcases hdie id _ hh with h | h
        · cases h
        · exact ⟨els', .inr h⟩
  have hblock : ∀ k a, lo[k]? = some a → a ≠ .dead → ∀ b, own (m k) = some b → w'.heap[b]? = w.heap[b]? := by
    intro k a ha hd b hb
    have ha' : l[k]? = some a := (hdie k a ha).resolve_left hd
    refine hg.block b ((hrel.obj k a ha').lt hd hb).1 (fun he => ?_)
    exact (hfree b he.symm).2.2 k (alive_iff.2 ⟨a, ha, hd⟩) hb
  refine ⟨hle, ⟨hrel.below.trans ⟨hg.os, hg.tape, hg.output, hg.size, fun k hk => hg.block k (by have := hrel.below.size; omega) (fun he => by have := (hfree k he.symm).1; omega), fun _ => hdr⟩, ⟨fun b o u hc => ?_, fun b es hc => ?_⟩, hrel.ext, fun id o ho => ?_, fun i j b hij hi hj hbi hbj => ?_⟩, ?_⟩
  · have hne : some b ≠ row := fun he => by rw [(hfree b he.symm).2.1.1 o] at hc; cases hc
    exact (World.cell?_of_block (w := w) (a := ⟨b, o, none⟩) (hg.block b (hrel.sat.lt hc) hne)).trans (hrel.sat.cell b o u hc)
  · have hne : some b ≠ row := fun he => by rw [(hfree b he.symm).2.1.2] at hc; cases hc
    have hh := hrel.sat.mp b es hc
    exact MapAt.to (hg.block b (hrel.sat.ltm hc) hne) hh
  · by_cases hid : id < l.length
    · rw [hget id hid] at ho; rw [upd_ne m v (by omega)]
      by_cases hd : o = .dead
      · subst hd; trivial
      · exact (hrel.obj id o ((hdie id o ho).resolve_left hd)).keep hle (hblock id o ho hd) (fun _ _ => ⟨rfl, rfl⟩)
    · have : id = l.length := by
        have := (List.getElem?_eq_some_iff.1 ho).1; simp at this; omega
      subst this
      rw [hlast] at ho; injection ho with ho; subst ho
      rw [upd_same]
      exact ⟨xs, hrow, hs, hrd, fun b hb => (hfresh b hb).2.1⟩
  · have hal : ∀ k, k ≠ l.length → alive (lo ++ [AO.row e size els]) k = true → alive lo k = true ∧ k < l.length := by
      intro k hk ha
      obtain ⟨o, ho, hd⟩ := alive_iff.1 ha
      have hkl : k < l.length := by have := (List.getElem?_eq_some_iff.1 ho).1; simp at this; omega
      rw [hget k hkl] at ho
      exact ⟨alive_iff.2 ⟨o, ho, hd⟩, hkl⟩
    by_cases h1 : i = l.length
    · subst h1; rw [upd_same] at hbi; rw [upd_ne m v (Ne.symm hij)] at hbj
      exact (hfresh b hbi).2.2 j (hal j (Ne.symm hij) hj).1 hbj
    · by_cases h2 : j = l.length
      · subst h2; rw [upd_same] at hbj; rw [upd_ne m v hij] at hbi
        exact (hfresh b hbj).2.2 i (hal i hij hi).1 hbi
      · rw [upd_ne m v h1] at hbi; rw [upd_ne m v h2] at hbj
        have a1 := (hal i h1 hi).1
        have a2 := (hal j h2 hj).1
        obtain ⟨o1, q1, d1⟩ := alive_iff.1 a1
        obtain ⟨o2, q2, d2⟩ := alive_iff.1 a2
        exact hrel.sep i j b hij (alive_iff.2 ⟨o1, (hdie i o1 q1).resolve_left d1, d1⟩) (alive_iff.2 ⟨o2, (hdie j o2 q2).resolve_left d2, d2⟩) hbi hbj
  · obtain ⟨A, n, c, rfl⟩ := hsl
    exact .row A n c _ (by simp; omega) (fun _ => upd_same m _ _)

end
end Go.Eva

/-
  Eva, part L: appends, calls; the whole.
-/
namespace Go.Eva
open Go Go.RowKit
variable [Drw]

section
variable {P : Program} {V : Env} {w0 w : World} {I0 I : Imm} {m : Nat → Value} {l L : List AO} {nid : Nat} {o : Oper} {ρ : Operand → Value} {ρT : Operand → T}

theorem run_append_of_nil (base : Nat) (t ty e : TypeId) (i : TypeInfo) (size : Nat) (ht : P.underlying t = some (.slice e)) (hi : P.info? e = some i)
    (v : Value) (n : Nat) (xs : List Value) (hown : w.ownsRow base e size v n xs) (c : Nat) : (Builtin.append_ #[t, t] ty #[v, .slice none 0 c]).run P w = .ok v w := by
  rcases hown.2 with ⟨rfl, rfl⟩ | ⟨g, cap, cur, rfl, _, _, hnc, _⟩
  · simp [Builtin.append_, run_underlying ht, sizeOf, typeInfo, hi, Builtin.lenOf, Builtin.firstCells]
  · simp [Builtin.append_, run_underlying ht, sizeOf, typeInfo, hi, Builtin.lenOf, Builtin.firstCells, hnc, storeCells]

/-- append onto a row of the call's own, from known data. -/
theorem run_append_rd (hE : TOk P V.E) (hsat : SatI w I) {t ty e : TypeId} {i : TI} (hu : P.underlying t = some (.slice e)) (hi : V.E e = some i) (hpos : 0 < i.size) {base : Nat} {v vx : Value} {n size' : Nat} {xs : List Value} {new : List D}
    (hown : w.ownsRow base e i.size v n xs) (hx : Rd I vx (.slice size' new)) (hsz : size' = i.size ∨ new.isEmpty = true) (hb : (n + new.length) * i.bytes ≤ 140737488355328) (hmax : n + new.length ≤ 9223372036854775807) (hbase : base ≤ w.heap.size) :
    ∃ v' w' news, (Builtin.append_ #[t, t] ty #[v, vx]).run P w = .ok v' w' ∧ w'.ownsRow base e i.size v' (n + new.length) (xs ++ news) ∧ w.grownBy w' v.ownBlock ∧ (v'.ownBlock = v.ownBlock ∨ v'.ownBlock = some w.heap.size) ∧
      (∀ d ∈ new, d.cells.length = i.size ∧ ∀ x ∈ d.cells, x.one = true) ∧ (∀ (j : Nat) x y, news[j]? = some x → (flat new)[j]? = some y → Rd I x y) := by
  obtain ⟨x, zv, k1, k2, k3, k4, k5, k6, k7, k8⟩ := tiOk_parts (hE e i hi)
  have hzs : zv.cells.size = i.size := by have := (zerosOk_rd I _ _ k5).1; rw [Array.length_toList] at this; omega
  cases hx with
  | slice0 A c _ hc =>
    cases A with
    | none => exact ⟨v, w, [], run_append_of_nil base t ty e x i.size hu k1 v n xs hown c, by simpa using hown, World.grownBy.refl w _, .inl rfl, by simp, by simp⟩
    | some a =>
      obtain ⟨v', w', h1, h2, h3, _, h5⟩ := run_append_own_at (P := P) w base t ty e x zv i.size i.bytes hu k1 k4 k2 k3 hzs hpos v n xs hown a 0 c [] (by simp) (by simp) (by simp) (by unfold maxLen; simp at hmax; omega) (by simpa using hb) hbase
      exact ⟨v', w', [], h1, by simpa using h2, h3, h5, by simp, by simp⟩
  | slice b off n' c size els val q1 q2 q3 q4 q5 q6 =>
    subst q1
    rcases hsz with hsz | hsz
    · subst hsz
      have hnews : ∀ (j : Nat) u, ((List.range (new.length * i.size)).map val)[j]? = some u → w.cell? ((⟨b, off, none⟩ : Addr).add j) = some u := by
        intro j u hu
        rw [List.getElem?_map] at hu
        by_cases hj : j < new.length * i.size
        · rw [List.getElem?_range hj] at hu
          simp at hu
          rw [Addr.add_mid, hsat.cell _ _ _ (q5 j hj), hu]
        · rw [List.getElem?_eq_none (by simp; omega)] at hu; cases hu
      have hread : ∀ (j : Nat) x y, ((List.range (new.length * i.size)).map val)[j]? = some x → (flat new)[j]? = some y → Rd I x y := by
        intro j u y hu hy
        have hj : j < new.length * i.size := by rw [← flat_len new (fun d hd => (q4 d hd).1)]; exact (List.getElem?_eq_some_iff.1 hy).1
        rw [List.getElem?_map, List.getElem?_range hj] at hu
        simp at hu; subst hu
        exact q6 j y hy
      have hone : ∀ u ∈ (List.range (new.length * i.size)).map val, u.oneCell' = true := by
        intro u hu
        obtain ⟨j, hj, rfl⟩ := List.mem_iff_getElem.1 hu
        have hj' : j < (flat new).length := by rw [flat_len new (fun d hd => (q4 d hd).1)]; simpa using hj
        have hy : (flat new)[j]? = some (flat new)[j] := List.getElem?_eq_getElem hj'
        refine (hread j _ _ (List.getElem?_eq_getElem hj) hy).one ?_
        obtain ⟨d, hd, hdy⟩ := List.mem_flatMap.1 (List.getElem_mem hj')
        exact (q4 d hd).2 _ hdy
      obtain ⟨v', w', h1, h2, h3, _, h5⟩ := run_append_own_at (P := P) w base t ty e x zv i.size i.bytes hu k1 k4 k2 k3 hzs hpos v n xs hown ⟨b, off, none⟩ new.length c ((List.range (new.length * i.size)).map val) (by simp) hnews hone (by unfold maxLen; omega) hb hbase
      exact ⟨v', w', _, h1, h2, h3, h5, q4, hread⟩
    · have : new = [] := by simpa using hsz
      subst this
      obtain ⟨v', w', h1, h2, h3, _, h5⟩ := run_append_own_at (P := P) w base t ty e x zv i.size i.bytes hu k1 k4 k2 k3 hzs hpos v n xs hown ⟨b, off, none⟩ 0 c [] (by simp) (by simp) (by simp) (by unfold maxLen; simp at hmax; omega) (by simpa using hb) hbase
      exact ⟨v', w', [], h1, by simpa using h2, h3, h5, by simp, by simp⟩

theorem ownsRow_own {B : Nat} {e : TypeId} {size n : Nat} {v : Value} {xs : List Value} (h : w.ownsRow B e size v n xs) : own v = v.ownBlock ∧ ∃ A n c, v = .slice A n c := by
  rcases h.2 with ⟨rfl, _⟩ | ⟨g, cap, cur, rfl, _⟩
  · exact ⟨rfl, _, _, _, rfl⟩
  · exact ⟨rfl, _, _, _, rfl⟩

theorem append_ok (hE : TOk P V.E) (hrel : WRel w0 I0 w I m l) {t ty : TypeId} {vs vx : Value} {s x : T} (hs : RdT I m l vs s) (hx : RdT I m l vx x) (hn : nid = l.length) (hob : (appendT V.E t l nid s x).ob) :
    ∃ l' v' w' J m', (appendT V.E t l nid s x).eff = .upd l' ∧ (Builtin.append_ #[t, t] ty #[vs, vx]).run P w = .ok v' w' ∧ Le I m l J m' l' ∧ WRel w0 I0 w' J m' l' ∧ RdT J m' l' v' (appendT V.E t l nid s x).t := by
  subst hn
  unfold appendT at hob ⊢
  split at hob
  · rename_i e hs1
    split at hob
    · rename_i i hi
      have hu := underlying_slice hE hs1
      split at hob
      · rename_i sx new l1 hd
        obtain ⟨J, le1, r1, rx, hl1⟩ := toD_ok hrel hx hd
        split at hob
        · rename_i hcond
          rw [if_pos hcond]
          split at hob
          · -- onto nil
            rename_i ns
            cases hs
            obtain ⟨v', w', news, h1, h2, h3, h4, h5, h6⟩ := run_append_rd (ty := ty) hE r1.sat hu hi hcond.2 (World.ownsRow_nil w w0.heap.size e i.size) rx (hcond.1) (by simpa using hob.1) (by simpa using hob.2) r1.below.size
            obtain ⟨o1, o2⟩ := ownsRow_own h2
            have hfresh : ∀ b, own v' = some b → w0.heap.size ≤ b ∧ J.noB b ∧ ∀ k, alive l1 k = true → own (m k) ≠ some b := by
              intro b hb
              have : b = w.heap.size := by
                rw [o1] at hb
                rcases h4 with h4 | h4
                · rw [h4] at hb; cases hb
                · rw [h4] at hb; injection hb with hb; exact hb.symm
              subst this
              refine ⟨r1.below.size, r1.sat.noB (Nat.le_refl _), fun k hk he => ?_⟩
              obtain ⟨a, ha, hda⟩ := alive_iff.1 hk
              have := ((r1.obj k a ha).lt hda he).1; omega
            obtain ⟨q1, q2, q3⟩ := r1.push_row (v := v') (lo := l1) (e := e) (size := i.size) (els := new) rfl (fun k a ha => .inr ha) (fun _ _ _ h => h) h3 (run_drawn _ _ _ _ _ h1) (fun b hb => by simp [Value.ownBlock] at hb) hfresh (by simpa using h2) h5 (by simpa using h6) o2
            rw [hl1] at q1 q2 q3
            exact ⟨_, v', w', J, _, rfl, h1, le1.trans q1, q2, q3⟩
          · -- onto a row
            rename_i id
            split at hob
            · rename_i e' size els ho
              split at hob
              · rename_i hcc
                obtain ⟨rfl, hsize, _⟩ := hcc
                subst hsize
                rw [if_pos ⟨rfl, rfl, hl1.symm⟩]
                have hs' := hs.mono le1
                obtain ⟨A, n, c, hvs, hm⟩ : ∃ A n c, vs = .slice A n c ∧ m id = vs := by
                  cases hs' with
                  | row A n c _ p1 p2 => exact ⟨A, n, c, rfl, p2 (by simp [isRow, ho, AO.isRow])⟩
                obtain ⟨xs, k1, k2, k3, k4⟩ := r1.obj id _ ho
                rw [hm] at k1 k4
                obtain ⟨v', w', news, h1, h2, h3, h4, h5, h6⟩ := run_append_rd (ty := ty) hE r1.sat hu hi hcond.2 k1 rx hcond.1 hob.1 hob.2 r1.below.size
                obtain ⟨o1, o2⟩ := ownsRow_own h2
                obtain ⟨o3, _⟩ := ownsRow_own k1
                have hidl : id < l1.length := (List.getElem?_eq_some_iff.1 ho).1
                have hlo : ∀ (k : Nat) a, (l1.set id .dead)[k]? = some a → a = .dead ∨ l1[k]? = some a := by
                  intro k a ha
                  rw [List.getElem?_set] at ha
                  split at ha
                  · first
                      | (injection ha with ha; exact .inl ha.symm)
                      | (split at ha <;> first | (injection ha with ha; exact .inl ha.symm) | cases ha)
                  · exact .inr ha
                have hal : ∀ k, alive (l1.set id .dead) k = true → k ≠ id ∧ alive l1 k = true := by
                  intro k hk
                  obtain ⟨a, ha, hda⟩ := alive_iff.1 hk
                  refine ⟨?_, alive_iff.2 ⟨a, (hlo k a ha).resolve_left hda, hda⟩⟩
                  rintro rfl
                  rw [List.getElem?_set, if_pos rfl, if_pos hidl] at ha
                  injection ha with ha; exact hda ha.symm
                have hold : ∀ b, own vs = some b → w0.heap.size ≤ b ∧ J.noB b ∧ ∀ k, alive (l1.set id .dead) k = true → own (m k) ≠ some b := by
                  intro b hb
                  refine ⟨((r1.obj id _ ho).lt (by simp) (by rw [hm]; exact hb)).2, k4 b hb, fun k hk he => ?_⟩
                  obtain ⟨hne, hk'⟩ := hal k hk
                  exact r1.sep k id b hne hk' (alive_iff.2 ⟨_, ho, by simp⟩) he (by rw [hm]; exact hb)
                have hfresh : ∀ b, own v' = some b → w0.heap.size ≤ b ∧ J.noB b ∧ ∀ k, alive (l1.set id .dead) k = true → own (m k) ≠ some b := by
                  intro b hb
                  rw [o1] at hb
                  rcases h4 with h4 | h4
                  · rw [h4, ← o3] at hb; exact hold b hb
                  · rw [h4] at hb; injection hb with hb; subst hb
                    refine ⟨r1.below.size, r1.sat.noB (Nat.le_refl _), fun k hk he => ?_⟩
                    obtain ⟨a, ha, hda⟩ := alive_iff.1 (hal k hk).2
                    have := ((r1.obj k a ha).lt hda he).1; omega
                obtain ⟨q1, q2, q3⟩ := r1.push_row (v := v') (lo := l1.set id .dead) (e := e') (size := i.size) (els := els ++ new) (xs := xs ++ news) (by simp) hlo
                  (fun k a hav hk => by
                    rw [List.getElem?_set, if_neg ?_]; exact hk
                    rintro rfl; rw [ho] at hk; cases hk; cases hav)
                  h3 (run_drawn _ _ _ _ _ h1) (fun b hb => hold b (by rw [o3]; exact hb)) hfresh (by simpa using h2)
                  (fun d hd => by rcases List.mem_append.1 hd with h | h; exact k2 d h; exact h5 d h)
                  (fun j u y hu' hy => by
                    rw [flat_append, List.getElem?_append] at hy
                    rw [List.getElem?_append] at hu'
                    have : xs.length = (flat els).length := by rw [flat_len els (fun d hd => (k2 d hd).1)]; exact k1.1
                    rw [this] at hu'
                    by_cases hj : j < (flat els).length
                    · rw [if_pos hj] at hy hu'; exact k3 j u y hu' hy
                    · rw [if_neg hj] at hy hu'; exact h6 _ u y hu' hy) o2
                rw [hl1] at q1 q2 q3
                exact ⟨_, v', w', J, _, rfl, h1, le1.trans q1, q2, q3⟩
              · exact hob.elim
            · exact hob.elim
          · exact hob.elim
        · exact hob.elim
      · exact hob.elim
    · exact hob.elim
  · exact hob.elim

theorem typed_ok {E : TEnv} {t : TypeId} {v : Value} {x : T} (h : RdT I m L v x) : RdT I m L v (typed E t x) := by
  unfold typed
  split
  · cases h; exact .nils _
  · exact h
theorem typedAll_ok {E : TEnv} : ∀ (ts : List TypeId) (vs : List Value) (xs : List T), (∀ (i : Nat) v x, vs[i]? = some v → xs[i]? = some x → RdT I m L v x) → (typedAll E ts xs).length = xs.length ∧ ∀ (i : Nat) v x, vs[i]? = some v → (typedAll E ts xs)[i]? = some x → RdT I m L v x
  | [], vs, xs, h => by simp [typedAll]; exact h
  | t :: ts, vs, [], h => by simp [typedAll]
  | t :: ts, vs, x :: xs, h => by
    match vs with
    | [] => simp [typedAll]; exact (typedAll_ok (E := E) ts [] xs (by simp)).1
    | v :: vs =>
      obtain ⟨h1, h2⟩ := typedAll_ok (E := E) ts vs xs (fun i v x hv hx => h (i + 1) v x (by simpa using hv) (by simpa using hx))
      simp only [typedAll]
      refine ⟨by simp [h1], fun i u y hu hy => ?_⟩
      rcases i with _ | i
      · simp at hu hy; subst hu; subst hy; exact typed_ok (h 0 v x rfl rfl)
      · simp at hu hy; exact h2 i u y hu hy

theorem run_call_value {c : Call} {f : Operand} {g : FuncId} (hcal : c.callee = .value f) (ho : o.op = .call c) (hf : ρ f = .func (.func g) #[] #[]) (hen : Enters P g) : (execOp ρ o).run P w = .ok (.enter g (c.args.map ρ)) w := by
  unfold execOp
  simp only [ho, resolve, hcal, hf, Deferred.ofValue, Sem.run_bind, Sem.run_pure, Result.andThen_ok, invoke]
  simpa using hen (c.args.map ρ) w

theorem callD_ok (hV : VOk P V) (hrel : WRel w0 I0 w I m L) (hc : Com l L) {c : Call} {f : Operand} {g : FuncId} (hcal : c.callee = .value f) (ho : o.op = .call c) (hr : ∀ x ∈ o.op.operands, RdT I m L (ρ x) (ρT x)) (hf : ρT f = .d (.fn g))
    (hob : (callD V.C g l (typedAll V.E c.argTypes.toList (c.args.toList.map ρT))).ob) : RSound P w0 I0 o ρ w I m l L nid (callD V.C g l (typedAll V.E c.argTypes.toList (c.args.toList.map ρT))) := by
  have hfv : ρ f = .func (.func g) #[] #[] := by
    have := hr f (by simp [ho, Op.operands, Call.operands, hcal])
    rw [hf] at this
    have := rdD this
    generalize ρ f = vf at this
    cases this; rfl
  have hargs : ∀ (i : Nat) v x, (c.args.toList.map ρ)[i]? = some v → (c.args.toList.map ρT)[i]? = some x → RdT I m L v x := by
    intro i v x hv hx
    rw [List.getElem?_map] at hv hx
    cases ha : c.args.toList[i]? with
    | none => simp [ha] at hv
    | some a =>
      simp [ha] at hv hx
      subst hv; subst hx
      refine hr a ?_
      simp only [ho, Op.operands, Call.operands, hcal]
      have := List.mem_of_getElem? ha
      simp at this ⊢
      exact .inr this
  obtain ⟨htl, hargs'⟩ := typedAll_ok (E := V.E) c.argTypes.toList _ _ hargs
  generalize hts : typedAll V.E c.argTypes.toList (c.args.toList.map ρT) = ts at *
  have hlen : (c.args.toList.map ρ).length = ts.length := by rw [htl]; simp
  unfold callD at hob ⊢
  split at hob
  · rename_i ds l' hd
    split at hob
    · rename_i x ob hC
      obtain ⟨hen, hcon⟩ := hV.C g ds x ob hC hob
      have hrun := run_call_value (P := P) (w := w) (ρ := ρ) hcal ho hfv hen
      have main : ∀ (L' : List AO) (J : Imm), Le I m L J m L' → WRel w0 I0 w J m L' → (c.args.toList.map ρ).length = ds.length → (∀ (i : Nat) v d, (c.args.toList.map ρ)[i]? = some v → ds[i]? = some d → Rd J v d) →
          Calls P g (c.args.map ρ) w fun e w'' => ∃ v, e = .returned v ∧ ∃ J', Le I m L J' m L' ∧ WRel w0 I0 w'' J' m L' ∧ RdT J' m L' v (.d x) := by
        intro L' J hle hr' hl' hrd
        refine (hcon w J (c.args.map ρ) hr'.sat (by simpa using hl') (fun i v d hv hd' => hrd i v d (by simpa using hv) hd')).mono ?_
        rintro e w'' ⟨v, J', he, hb, hx, hs, hrv⟩
        obtain ⟨q1, q2⟩ := hr'.call hb hx hs
        exact ⟨v, he, J', hle.trans q2, q1, .d _ _ hrv⟩
      unfold RSound
      by_cases hq : ts.all (quietT l) = true
      · simp only [if_pos hq, hrun, StepOk]
        have hL := argsD_com ts hc hq hd
        obtain ⟨J, le1, r1, hl1, hrd, _⟩ := argsD_ok ts L I _ ds L hrel hlen hargs' hL
        exact (main L J le1 r1 hl1 hrd).mono fun e w'' ⟨v, he, J', h⟩ => ⟨v, he, J', h⟩
      · simp only [if_neg hq, hrun, StepOk]
        rintro rfl hn
        obtain ⟨J, le1, r1, hl1, hrd, _⟩ := argsD_ok ts L I _ ds l' hrel hlen hargs' hd
        exact (main l' J le1 r1 hl1 hrd).mono fun e w'' ⟨v, he, J', h1, h2, h3⟩ => ⟨v, he, J', m, h1, h2, h3⟩
    · exact hob.elim
  · exact hob.elim

theorem callT_ok (hV : VOk P V) (hrel : WRel w0 I0 w I m L) (hc : Com l L) {c : Call} {f : Operand} {g : FuncId} (hcal : c.callee = .value f) (ho : o.op = .call c) (hr : ∀ x ∈ o.op.operands, RdT I m L (ρ x) (ρT x)) (hf : ρT f = .d (.fn g))
    (hob : (callT V g l (typedAll V.E c.argTypes.toList (c.args.toList.map ρT))).ob) : RSound P w0 I0 o ρ w I m l L nid (callT V g l (typedAll V.E c.argTypes.toList (c.args.toList.map ρT))) := by
  unfold callT at hob ⊢
  split at hob
  · rename_i t l' ob hF
    obtain ⟨hen, hcon⟩ := hV.F g _ l _ hF hob
    have hfv : ρ f = .func (.func g) #[] #[] := by
      have := hr f (by simp [ho, Op.operands, Call.operands, hcal])
      rw [hf] at this
      have := rdD this
      generalize ρ f = vf at this
      cases this; rfl
    have hargs : ∀ (i : Nat) v x, (c.args.toList.map ρ)[i]? = some v → (c.args.toList.map ρT)[i]? = some x → RdT I m L v x := by
      intro i v x hv hx
      rw [List.getElem?_map] at hv hx
      cases ha : c.args.toList[i]? with
      | none => simp [ha] at hv
      | some a =>
        simp [ha] at hv hx
        subst hv; subst hx
        refine hr a ?_
        simp only [ho, Op.operands, Call.operands, hcal]
        have := List.mem_of_getElem? ha
        simp at this ⊢
        exact .inr this
    obtain ⟨htl, hargs'⟩ := typedAll_ok (E := V.E) c.argTypes.toList _ _ hargs
    have hrun := run_call_value (P := P) (w := w) (ρ := ρ) hcal ho hfv hen
    unfold RSound
    rintro rfl hn
    simp only [hrun, StepOk]
    exact (hcon w0 I0 w I m (c.args.map ρ) hrel (by rw [htl]; simp) (fun i v x hv hx => hargs' i v x (by simpa using hv) hx)).mono fun e w' ⟨v, he, J, m', h1, h2, h3⟩ => ⟨v, he, J, m', h1, h2, h3⟩
  · exact callD_ok hV hrel hc hcal ho hr hf hob

theorem slice_form {I : Imm} {v : Value} {s : Nat} {els : List D} (h : Rd I v (.slice s els)) : ∃ A c, v = .slice A els.length c := by
  generalize hD : D.slice s els = dd at h
  cases h <;> first | (cases hD; done) | skip
  · injection hD with _ hD; subst hD; exact ⟨_, _, rfl⟩
  · rename_i q1 _ _ _ _ _
    injection hD with _ hD; subst hD; exact ⟨_, _, by rw [q1]⟩

/-- What a map holds. -/
theorem mapOf_ok (hrel : WRel w0 I0 w I m L) (hc : Com l L) {v : Value} {t : T} {ks vs : List D} (hx : RdT I m L v t) (hm : mapOf l t = some (ks, vs)) :
    ∃ es : Array MapEntry, es.size = ks.length ∧ es.size = vs.length ∧ (∀ (i : Nat) (e : MapEntry) (d : D), es[i]? = some e → ks[i]? = some d → Rd I e.key d) ∧ (∀ (i : Nat) (e : MapEntry) (d : D), es[i]? = some e → vs[i]? = some d → Rd I e.val d) ∧
      ((v = .map none ∧ es = #[]) ∨ ∃ b clk, v = .map (some b) ∧ w.heap[b]? = some (.map es clk)) := by
  unfold mapOf at hm
  split at hm
  · injection hm with hm; injection hm with h1 h2; subst h1; subst h2
    have := rdD hx
    cases this with
    | map0 => exact ⟨#[], rfl, rfl, by simp, by simp, .inl ⟨rfl, rfl⟩⟩
    | map b es _ _ q1 q2 q3 q4 q5 =>
      have hh := hrel.sat.mp b es q1
      exact ⟨es.1, q2, q3, q4, q5, .inr ⟨b, es.2, rfl, hh.1⟩⟩
  · rename_i id
    split at hm
    · rename_i ks' vs' hl
      injection hm with hm; injection hm with h1 h2; subst h1; subst h2
      obtain ⟨b, es, q1, q2, q3, q4, q5, q6, q7, q8⟩ := hrel.obj id _ (hc.get hl)
      cases hx with
      | map r _ p1 p2 =>
        have := p2 (by unfold isRow; rw [hc.get hl]; rfl)
        rw [q1] at this
        exact ⟨es.1, q4, q5, q6, q7, .inr ⟨b, es.2, this.symm, q3.1⟩⟩
    · rename_i ks' vs' hl
      injection hm with hm; injection hm with h1 h2; subst h1; subst h2
      obtain ⟨b, es, q1, q2, q3, q4, q5, q6, q7, q8⟩ := hrel.obj id _ (hc.get hl)
      cases hx with
      | map r _ p1 p2 =>
        have := p2 (by unfold isRow; rw [hc.get hl]; rfl)
        rw [q1] at this
        exact ⟨es.1, q4, q5, q6, q7, .inr ⟨b, es.2, this.symm, q3.1⟩⟩
    · cases hm
  · cases hm

theorem lenT_ok (hE : TOk P V.E) (hrel : WRel w0 I0 w I m L) (hc : Com l L) {v : Value} {x : T} {ty t : TypeId} (hx : RdT I m L v x) (hob : (lenT V.E t l x).ob) :
    (lenT V.E t l x).eff = .none ∧ ∃ u, (Builtin.len_ #[t] ty #[v]).run P w = .ok u w ∧ RdT I m L u (lenT V.E t l x).t := by
  have fin : ∀ (A : Option Addr) (n c : Nat) (e : TypeId), P.underlying t = some (.slice e) → (Builtin.len_ #[t] ty #[.slice A n c]).run P w = .ok (.int .i64 n) w := by
    intro A n c e hu
    simp [Builtin.len_, run_underlying hu, goInt]
  unfold lenT at hob ⊢
  split at hob
  · rename_i hs
    have hu := underlying_string hE hs
    split at hob
    · have := rdD hx; cases this
      exact ⟨rfl, _, by simp [Builtin.len_, run_underlying hu, goInt], .d _ _ (.int _ _)⟩
    · exact hob.elim
  · rename_i e hs
    have hu := underlying_slice hE hs
    split at hob
    · rename_i s els
      obtain ⟨A, c, rfl⟩ := slice_form (rdD hx)
      exact ⟨rfl, _, fin _ _ _ _ hu, .d _ _ (.int _ _)⟩
    · cases hx; exact ⟨rfl, _, fin _ _ _ _ hu, .d _ _ (.int _ _)⟩
    · rename_i id
      have go : ∀ e size els, l[id]? = some (.row e size els) ∨ l[id]? = some (.frow e size els) → ∃ A c, v = .slice A els.length c := by
        intro e size els ho
        have ho' : L[id]? = some (.row e size els) ∨ L[id]? = some (.frow e size els) := by rcases ho with ho | ho; exact .inl (hc.get ho); exact .inr (hc.get ho)
        cases hx with
        | row A n c _ p1 p2 =>
          have hm := p2 (by unfold isRow; rcases ho' with h | h <;> simp [h, AO.isRow])
          have : ∃ xs, w.ownsRow w0.heap.size e size (m id) els.length xs := by
            rcases ho' with h | h
            · obtain ⟨xs, k1, _⟩ := hrel.obj id _ h; exact ⟨xs, k1⟩
            · obtain ⟨xs, k1, _⟩ := hrel.obj id _ h; exact ⟨xs, k1⟩
          obtain ⟨xs, k1⟩ := this
          rw [hm] at k1
          rcases k1.2 with ⟨q, q'⟩ | ⟨g, cap, cur, q, _⟩
          · injection q with q1 q2 q3; rw [q', ← q2]; exact ⟨_, _, rfl⟩
          · injection q with q1 q2 q3; rw [← q2]; exact ⟨_, _, rfl⟩
      split at hob
      · rename_i e size els ho
        obtain ⟨A, c, rfl⟩ := go e size els (.inl ho)
        exact ⟨rfl, _, fin _ _ _ _ hu, .d _ _ (.int _ _)⟩
      · rename_i e size els ho
        obtain ⟨A, c, rfl⟩ := go e size els (.inr ho)
        exact ⟨rfl, _, fin _ _ _ _ hu, .d _ _ (.int _ _)⟩
      · exact hob.elim
    · exact hob.elim
  · rename_i kt e hs
    have hu : P.underlying t = some (.map kt e) := by
      obtain ⟨x, z', _, _, _, _, _, _, h7, _⟩ := tiOk_parts (hE t _ hs)
      simp only [descOk] at h7
      split at h7
      · rename_i k' e' he; simp at h7; obtain ⟨rfl, rfl⟩ := h7; exact he
      · cases h7
    split at hob
    · rename_i ks vs hm
      obtain ⟨es, h1, _, _, _, h2⟩ := mapOf_ok hrel hc hx hm
      try simp only [hm]
      rcases h2 with ⟨rfl, rfl⟩ | ⟨b, clk, rfl, hh⟩
      · refine ⟨rfl, _, by simp [Builtin.len_, run_underlying hu, goInt]; rfl, ?_⟩
        have : ks.length = 0 := by simpa using h1.symm
        rw [this]; exact .d _ _ (.int _ _)
      · refine ⟨rfl, .int .i64 es.size, by simp [Builtin.len_, run_underlying hu, goInt, MapKept.run_getObj_map hh], ?_⟩
        rw [h1]; exact .d _ _ (.int _ _)
    · exact hob.elim
  · exact hob.elim

end
end Go.Eva

/-
  Eva, part La: maps, bytes of strings, conversions.
-/
namespace Go.Eva
open Go Go.RowKit
variable [Drw]

section
variable {P : Program} {V : Env} {w0 w w' : World} {I0 I : Imm} {m : Nat → Value} {l L : List AO} {nid : Nat} {o : Oper} {ρ : Operand → Value} {ρT : Operand → T}

/-- An object of the call's own is turned within its block. -/
theorem Le.setKind {id : Nat} {a a' : AO} (h : l[id]? = some a) (hv : a'.isVar = a.isVar) (hr : a'.isRow = a.isRow)
    (hrow : ∀ e size els, a' = .row e size els ∨ a' = .frow e size els → ∃ els', a = .row e size els' ∨ a = .frow e size els') : Le I m l I m (l.set id a') := by
  refine ⟨.refl I, by simp, fun k _ hk => ⟨(isVar_set h hv.symm k).trans hk, rfl⟩, fun k _ hk => ⟨(isRow_set h hr.symm k).symm.trans hk, rfl⟩, fun k e size els hk hh => ?_⟩
  by_cases hki : k = id
  · subst hki
    rw [List.getElem?_set, if_pos rfl, if_pos (List.getElem?_eq_some_iff.1 h).1] at hh
    simp only [Option.some.injEq] at hh
    obtain ⟨els', q⟩ := hrow e size els hh
    exact ⟨els', by rw [h]; rcases q with rfl | rfl <;> simp⟩
  · rw [List.getElem?_set, if_neg (Ne.symm hki)] at hh; exact ⟨els, hh⟩

theorem WRel.turnB (hrel : WRel w0 I0 w I m l) {id b : Nat} {a a' : AO} (ho : l[id]? = some a) (hd : a ≠ .dead) (hown : own (m id) = some b) (hno : I.noB b) (hv : a'.isVar = a.isVar) (hrw : a'.isRow = a.isRow)
    (hle : Le I m l I m (l.set id a')) (hos : w'.os = w.os) (htape : w'.tape = w.tape) (hout : w'.output = w.output) (hdr : w.drawn ≤ w'.drawn) (hsize : w.heap.size ≤ w'.heap.size) (hoth : ∀ k, k ≠ b → w'.heap[k]? = w.heap[k]?)
    (hok : ObjOk w0.heap.size w' I m (l.set id a') (m id) a') : WRel w0 I0 w' I m (l.set id a') := by
  have hlt := (hrel.obj id a ho).lt hd hown
  have hidl : id < l.length := (List.getElem?_eq_some_iff.1 ho).1
  have hal : alive l id = true := alive_iff.2 ⟨_, ho, hd⟩
  refine ⟨hrel.below.trans ⟨hos, htape, hout, hsize, fun k hk => hoth k (by omega), fun _ => hdr⟩, ⟨fun b' q u hc => ?_, fun b' es hc => ?_⟩, hrel.ext, fun j q hj => ?_, fun i j b' hij hi hj hbi hbj => ?_⟩
  · have hne : b' ≠ b := by rintro rfl; rw [hno.1] at hc; cases hc
    exact (World.cell?_of_block (w := w) (a := ⟨b', q, none⟩) (hoth b' hne)).trans (hrel.sat.cell b' q u hc)
  · have hne : b' ≠ b := by rintro rfl; rw [hno.2] at hc; cases hc
    have hh := hrel.sat.mp b' es hc
    exact MapAt.to (hoth b' hne) hh
  · by_cases hji : j = id
    · subst hji
      rw [List.getElem?_set, if_pos rfl, if_pos hidl] at hj
      injection hj with hj; subst hj; exact hok
    · rw [List.getElem?_set, if_neg (Ne.symm hji)] at hj
      by_cases hdd : q = .dead
      · subst hdd; trivial
      · refine (hrel.obj j q hj).keep hle (fun b' hb' => hoth b' ?_) (fun _ _ => ⟨rfl, rfl⟩)
        rintro rfl
        exact hrel.sep j id b' hji (alive_iff.2 ⟨q, hj, hdd⟩) hal hb' hown
  · refine hrel.sep i j b' hij ?_ ?_ hbi hbj
    · unfold alive at hi ⊢; rwa [isVar_set ho hv.symm, isRow_set ho hrw.symm] at hi
    · unfold alive at hj ⊢; rwa [isVar_set ho hv.symm, isRow_set ho hrw.symm] at hj

theorem findNow_key {kk : IntKind} {n : Int} : ∀ (es : List MapEntry) (ks : List D) (i : Nat), es.length = ks.length → (∀ (j : Nat) (e : MapEntry) (d : D), es[j]? = some e → ks[j]? = some d → Rd I e.key d) → keysInt kk ks = true →
    (keyIdx n ks i = none ∧ Instr.findNow (.int kk) (.int kk n) es i = some none ∧ ∀ e ∈ es, e.key ≠ .int kk n) ∨ ∃ j e, keyIdx n ks i = some (i + j) ∧ es[j]? = some e ∧ e.key = .int kk n ∧ ks[j]? = some (.int kk n) ∧ Instr.findNow (.int kk) (.int kk n) es i = some (some (i + j, e.val))
  | [], [], i, _, _, _ => .inl ⟨rfl, rfl, by simp⟩
  | e :: es, d :: ks, i, hl, hr, hk => by
    simp only [keysInt, List.all_cons, Bool.and_eq_true] at hk
    obtain ⟨hk1, hk2⟩ := hk
    have h0 := hr 0 e d rfl rfl
    split at hk1
    · rename_i k' a
      have hk' : k' = kk := by simpa using hk1
      subst hk'
      have hkey : e.key = .int k' a := by generalize e.key = z at h0; cases h0; rfl
      by_cases hna : n = a
      · subst hna
        refine .inr ⟨0, e, by simp [keyIdx], rfl, hkey, rfl, ?_⟩
        simp [Instr.findNow, Instr.sameNow, hkey]
      · rcases findNow_key (kk := k') (n := n) es ks (i + 1) (by simpa using hl) (fun j e d h1 h2 => hr (j + 1) e d (by simpa using h1) (by simpa using h2)) hk2 with ⟨h1, h2, h6⟩ | ⟨j, e', h1, h2, h3, h4, h5⟩
        · exact .inl ⟨by simp [keyIdx, hna, h1], by simp only [Instr.findNow, Instr.sameNow, hkey, if_true, beq_eq_false_iff_ne.2 hna, h2], fun x hx => by
            rcases List.mem_cons.1 hx with rfl | hx
            · rw [hkey]; intro he; injection he with _ he; exact hna he.symm
            · exact h6 x hx⟩
        · refine .inr ⟨j + 1, e', by simp only [keyIdx, if_neg hna, h1]; congr 1; omega, by simpa using h2, h3, by simpa using h4, ?_⟩
          simp only [Instr.findNow, Instr.sameNow, hkey, if_true, beq_eq_false_iff_ne.2 hna, h5]
          congr 3; omega
    · cases hk1

theorem mapTy_ok (hE : TOk P V.E) {t : TypeId} {kk : IntKind} {i : TI} (h : mapTy V.E t = some (kk, i)) : ∃ kt e, P.underlying t = some (.map kt e) ∧ P.underlying kt = some (.int kk) ∧ V.E e = some i := by
  unfold mapTy at h
  split at h
  · rename_i kt e ht
    split at h
    · rename_i kk' i' h1 h2
      injection h with h; injection h with e1 e2; subst e1; subst e2
      obtain ⟨x, z', _, _, _, _, _, _, h7, _⟩ := tiOk_parts (hE t _ ht)
      obtain ⟨x', z'', _, _, _, _, _, _, h7', _⟩ := tiOk_parts (hE kt _ h1)
      refine ⟨kt, e, ?_, ?_, h2⟩
      · simp only [descOk] at h7
        split at h7
        · rename_i k' e' he; simp at h7; obtain ⟨rfl, rfl⟩ := h7; exact he
        · cases h7
      · simp only [descOk] at h7'
        split at h7'
        · rename_i k' he; simp at h7'; subst h7'; exact he
        · cases h7'
    · cases h
  · cases h

theorem intOfT_ok {t : T} {k : IntKind} {n : Int} {v : Value} (h : intOfT t = some (k, n)) (hr : RdT I m L v t) : v = .int k n := by
  unfold intOfT at h
  split at h
  · injection h with h; injection h with h1 h2; subst h1; subst h2
    have := rdD hr; cases this; rfl
  · cases h

theorem elAt_get {ds : List D} {j : Nat} {d : D} (h : ds[j]? = some d) : elAt ds j = d := by simp [elAt, h]

theorem zero_rd {z : Value} {i : TI} (h1 : zerosOk z.cells.toList i.zero = true) (h2 : isAggV z = i.desc.agg) : Rd I z (mkD i.desc.agg i.zero) := by
  obtain ⟨q1, q2, q3⟩ := zerosOk_rd I _ _ h1
  unfold mkD
  cases z with
  | agg cs =>
    rw [← h2]
    simp only [isAggV, if_true]
    exact .agg _ _ (by simpa [Value.cells] using q1) q2 (fun i v d hv hd => q3 i v d (by simpa [Value.cells] using hv) hd)
  | _ =>
    rw [← h2]
    simp only [isAggV, Bool.false_eq_true, if_false]
    match hz : i.zero, q1 with
    | [d], _ => exact q3 0 _ d (by simp [Value.cells]) (by simp [hz])
    | [], q1 => simp [Value.cells] at q1
    | _ :: _ :: _, q1 => simp [Value.cells] at q1

theorem look_ok (hE : TOk P V.E) (hrel : WRel w0 I0 w I m L) (hc : Com l L) {t : TypeId} {x k : Value} {tx tk : T} {ok : Bool} (hx : RdT I m L x tx) (hk : RdT I m L k tk) (hob : (lookT V.E t l tx tk ok).ob) :
    (lookT V.E t l tx tk ok).eff = .none ∧ ∃ u, (Instr.lookup t x k ok).run P w = .ok u w ∧ RdT I m L u (lookT V.E t l tx tk ok).t := by
  unfold lookT at hob ⊢
  split at hob
  · rename_i kk i ks vs kk' n h1 h2 h3
    have := intOfT_ok h3 hk; subst this
    obtain ⟨kt, e, u1, u2, u3⟩ := mapTy_ok hE h1
    obtain ⟨es, s1, s2, r1, r2, r3⟩ := mapOf_ok hrel hc hx h2
    obtain ⟨z, z1, z2, z3, z4⟩ := run_zero_ti hE u3 w
    split at hob
    · rename_i hkk; subst hkk
      simp only [if_true]
      have hck : ∀ e : Bool, (Instr.checkKey e 10000 kt (.int kk n)).run P w = .ok () w := fun e => MapKept.run_checkKey (d := .int kk) (n := 9999) u2 (by simp [MapKept.IsKey]) e
      have hrun : ∀ r, Instr.findNow (.int kk) (.int kk n) es.toList 0 = some r → (Instr.lookup t x (.int kk n) ok).run P w = .ok (if ok then .tuple #[match r with | some (_, v) => v | none => z, .bool r.isSome] else match r with | some (_, v) => v | none => z) w := by
        intro r hr
        have hf := MapKept.run_findKey (w := w) u2 hr
        unfold Instr.lookup
        rcases r3 with ⟨rfl, rfl⟩ | ⟨b, clk, rfl, hh⟩
        · simp only [Sem.run_bind, run_underlying u1, Result.andThen_ok, Sem.run_pure, hck, hf]
          cases r <;> simp [z1] <;> split <;> simp
        · simp only [Sem.run_bind, run_underlying u1, Result.andThen_ok, Sem.run_pure, MapKept.run_getObj_map hh, hck, hf]
          cases r <;> simp [z1] <;> split <;> simp
      rcases findNow_key (kk := kk) (n := n) es.toList ks 0 (by simpa using s1) (fun j e d q1 q2 => r1 j e d (by simpa using q1) q2) (by split at hob <;> exact hob) with ⟨q1, q2, _⟩ | ⟨j, e', q1, q2, q3, q4, q5⟩
      · simp only [q1]
        refine ⟨by trivial, _, hrun _ q2, ?_⟩
        have hz := zero_rd (I := I) z2 z3
        cases ok
        · exact .d _ _ hz
        · exact .d _ _ (.tup _ _ rfl fun i v d hv hd => by
            rcases i with _ | _ | i
            · simp at hv hd; subst hv; subst hd; exact hz
            · simp at hv hd; subst hv; subst hd; exact .bool _
            · simp at hv)
      · simp only [q1, Nat.zero_add]
        refine ⟨by trivial, _, hrun _ q5, ?_⟩
        have hj : j < vs.length := by rw [← s2]; have := (List.getElem?_eq_some_iff.1 q2).1; simpa using this
        have hv := r2 j e' _ (by simpa using q2) (List.getElem?_eq_getElem hj)
        rw [elAt_get (List.getElem?_eq_getElem hj)]
        cases ok
        · exact .d _ _ hv
        · exact .d _ _ (.tup _ _ rfl fun i v d hv' hd => by
            rcases i with _ | _ | i
            · simp at hv' hd; subst hv'; subst hd; exact hv
            · simp at hv' hd; subst hv'; subst hd; exact .bool _
            · simp at hv')
    · exact hob.elim
  · exact hob.elim

theorem stays (kk : IntKind) (n : Int) (w : World) : (Instr.keyThatStays (.int kk n) (.int kk n)).run P w = .ok (.int kk n) w := by
  unfold Instr.keyThatStays
  have : Instr.sameBits 10000 (.int kk n) (.int kk n) = true := by simp [Instr.sameBits]
  rw [this]; rfl

theorem put_ok (hE : TOk P V.E) (hrel : WRel w0 I0 w I m l) {t : TypeId} {x k v : Value} {tx tk tv : T} (hx : RdT I m l x tx) (hk : RdT I m l k tk) (hv : RdT I m l v tv) (hob : (mapPutT V.E t l tx tk tv).ob) :
    ∃ l' w', (mapPutT V.E t l tx tk tv).eff = .upd l' ∧ (Instr.mapUpdate t x k v).run P w = .ok () w' ∧ Le I m l I m l' ∧ WRel w0 I0 w' I m l' := by
  unfold mapPutT at hob ⊢
  split at hob
  · rename_i kk i id kk' n d h1 h3 h4
    have := intOfT_ok h3 hk; subst this
    have hd := rd_unD1 hv h4
    obtain ⟨kt, e, u1, u2, u3⟩ := mapTy_ok hE h1
    split at hob
    · rename_i hkk; subst hkk
      simp only [if_true]
      split at hob
      · rename_i ks vs hl
        obtain ⟨b, ⟨es, clk⟩, q1, q2, q3, s1, s2, r1, r2, hno⟩ := hrel.obj id _ hl
        replace q3 : w.heap[b]? = some (.map es clk) ∧ MapKept.Stamped es clk := q3
        simp only at s1 s2 r1 r2
        have hxv : x = .map (some b) := by
          cases hx with
          | map r _ p1 p2 =>
            have := p2 (by unfold isRow; rw [hl]; rfl)
            rw [q1] at this; exact this.symm
        subst hxv
        have hck : ∀ e : Bool, (Instr.checkKey e 10000 kt (.int kk n)).run P w = .ok () w := fun e => MapKept.run_checkKey (d := .int kk) (n := 9999) u2 (by simp [MapKept.IsKey]) e
        have hown : own (m id) = some b := by rw [q1]; rfl
        rcases findNow_key (kk := kk) (n := n) es.toList ks 0 (by simpa using s1) (fun j e d q1 q2 => r1 j e d (by simpa using q1) q2) hob with ⟨p1, p2, p6⟩ | ⟨j, e', p1, p2, p3, p4, p5⟩
        · simp only [p1]
          have hf := MapKept.run_findKey (w := w) u2 p2
          have hset := MapKept.run_setObj_map (P := P) (.map (es.push { key := .int kk n, val := v, born := clk }) (clk + 1)) q3.1
          obtain ⟨g1, g2⟩ := MapKept.heap_set (o' := .map (es.push { key := .int kk n, val := v, born := clk }) (clk + 1)) q3.1
          refine ⟨_, { w with heap := w.heap.setIfInBounds b (.map (es.push { key := .int kk n, val := v, born := clk }) (clk + 1)) }, rfl, ?_, ?_, ?_⟩
          · unfold Instr.mapUpdate
            simp only [Sem.run_bind, run_underlying u1, Result.andThen_ok, MapKept.run_getObj_map q3.1, hck, hf, hset]
          · exact Le.setKind hl rfl rfl (by simp)
          · refine hrel.turnB hl (by simp) hown hno rfl rfl (Le.setKind hl rfl rfl (by simp)) rfl rfl rfl (Nat.le_refl _) (by simp) (fun k hk => g2 k hk) ?_
            refine ⟨b, (es.push { key := .int kk n, val := v, born := clk }, clk + 1), q1, q2, ⟨g1, MapKept.stamped_push q3.2 (by simpa using p6)⟩, by simp [s1], by simp [s2], fun i e d he hd' => ?_, fun i e d' he hd' => ?_, hno⟩
            · rw [Array.getElem?_push] at he
              split at he
              · injection he with he; subst he
                rename_i hi; subst hi
                rw [s1, List.getElem?_append_right (Nat.le_refl _)] at hd'; simp at hd'; subst hd'; exact .int _ _
              · have hi : i < ks.length := by have := (Array.getElem?_eq_some_iff.1 he).1; omega
                rw [List.getElem?_append_left hi] at hd'; exact r1 i e d he hd'
            · rw [Array.getElem?_push] at he
              split at he
              · injection he with he; subst he
                rename_i hi; subst hi
                rw [s2, List.getElem?_append_right (Nat.le_refl _)] at hd'; simp at hd'; subst hd'; exact hd
              · have hi : i < vs.length := by have := (Array.getElem?_eq_some_iff.1 he).1; omega
                rw [List.getElem?_append_left hi] at hd'; exact r2 i e d' he hd'
        · simp only [p1, Nat.zero_add]
          rw [Nat.zero_add] at p5
          have hf := MapKept.run_findKey (w := w) u2 p5
          have hej : es[j]? = some e' := by simpa using p2
          have hset := MapKept.run_setObj_map (P := P) (.map (es.modify j fun e => { e with key := .int kk n, val := v }) clk) q3.1
          obtain ⟨g1, g2⟩ := MapKept.heap_set (o' := .map (es.modify j fun e => { e with key := .int kk n, val := v }) clk) q3.1
          refine ⟨_, { w with heap := w.heap.setIfInBounds b (.map (es.modify j fun e => { e with key := .int kk n, val := v }) clk) }, rfl, ?_, Le.setKind hl rfl rfl (by simp), ?_⟩
          · unfold Instr.mapUpdate
            simp only [Sem.run_bind, run_underlying u1, Result.andThen_ok, MapKept.run_getObj_map q3.1, hck, hf, hej, Option.map_some, Option.getD_some, p3, stays, hset]
          · refine hrel.turnB hl (by simp) hown hno rfl rfl (Le.setKind hl rfl rfl (by simp)) rfl rfl rfl (Nat.le_refl _) (by simp) (fun k hk => g2 k hk) ?_
            refine ⟨b, (es.modify j fun e => { e with key := .int kk n, val := v }, clk), q1, q2, ⟨g1, MapKept.stamped_modify q3.2 j _ (fun _ _ => rfl) (fun x hx hj => by rw [hej] at hj; injection hj with hj; subst hj; exact p3.symm)⟩, by simp [s1], by simp [s2], fun i e d he hd' => ?_, fun i e d' he hd' => ?_, hno⟩
            · rw [Array.getElem?_modify] at he
              split at he
              · rename_i hi; subst hi
                rw [hej] at he; simp at he; subst he
                rw [p4] at hd'; injection hd' with hd'; subst hd'; exact .int _ _
              · exact r1 i e d he hd'
            · rw [Array.getElem?_modify] at he
              split at he
              · rename_i hi; subst hi
                rw [hej] at he; simp at he; subst he
                have hj : j < vs.length := by rw [← s2]; exact (Array.getElem?_eq_some_iff.1 hej).1
                rw [List.getElem?_set, if_pos rfl, if_pos hj] at hd'
                injection hd' with hd'; subst hd'; exact hd
              · rename_i hne
                rw [List.getElem?_set, if_neg hne] at hd'; exact r2 i e d' he hd'
      · exact hob.elim
    · exact hob.elim
  · exact hob.elim

theorem del_ok (hE : TOk P V.E) (hrel : WRel w0 I0 w I m l) {t t2 ty : TypeId} {x k : Value} {tx tk : T} (hx : RdT I m l x tx) (hk : RdT I m l k tk) (hob : (mapDelT V.E t l tx tk).ob) :
    (mapDelT V.E t l tx tk).t = .d (.tup []) ∧ ∃ l' w', (mapDelT V.E t l tx tk).eff = .upd l' ∧ (Builtin.delete_ #[t, t2] ty #[x, k]).run P w = .ok (.tuple #[]) w' ∧ Le I m l I m l' ∧ WRel w0 I0 w' I m l' := by
  unfold mapDelT at hob ⊢
  split at hob
  · rename_i kk i id kk' n h1 h3
    have := intOfT_ok h3 hk; subst this
    obtain ⟨kt, e, u1, u2, u3⟩ := mapTy_ok hE h1
    split at hob
    · rename_i hkk; subst hkk
      simp only [if_true]
      split at hob
      · rename_i ks vs hl
        refine ⟨rfl, ?_⟩
        obtain ⟨b, ⟨es, clk⟩, q1, q2, q3, s1, s2, r1, r2, hno⟩ := hrel.obj id _ hl
        replace q3 : w.heap[b]? = some (.map es clk) ∧ MapKept.Stamped es clk := q3
        simp only at s1 s2 r1 r2
        have hxv : x = .map (some b) := by
          cases hx with
          | map r _ p1 p2 =>
            have := p2 (by unfold isRow; rw [hl]; rfl)
            rw [q1] at this; exact this.symm
        subst hxv
        have hck : ∀ e : Bool, (Instr.checkKey e 10000 kt (.int kk n)).run P w = .ok () w := fun e => MapKept.run_checkKey (d := .int kk) (n := 9999) u2 (by simp [MapKept.IsKey]) e
        have hown : own (m id) = some b := by rw [q1]; rfl
        rcases findNow_key (kk := kk) (n := n) es.toList ks 0 (by simpa using s1) (fun j e d q1 q2 => r1 j e d (by simpa using q1) q2) hob with ⟨p1, p2, p6⟩ | ⟨j, e', p1, p2, p3, p4, p5⟩
        · simp only [p1]
          have hf := MapKept.run_findKey (w := w) u2 p2
          have hset := MapKept.run_setObj_map (P := P) (.map es clk) q3.1
          obtain ⟨g1, g2⟩ := MapKept.heap_set (o' := .map es clk) q3.1
          refine ⟨_, { w with heap := w.heap.setIfInBounds b (.map es clk) }, rfl, ?_, Le.setKind hl rfl rfl (by simp), ?_⟩
          · unfold Builtin.delete_
            simp [run_underlying u1, MapKept.run_getObj_map q3.1, hck, hf, hset]
          · refine hrel.turnB hl (by simp) hown hno rfl rfl (Le.setKind hl rfl rfl (by simp)) rfl rfl rfl (Nat.le_refl _) (by simp) (fun k hk => g2 k hk) ?_
            exact ⟨b, (es, clk), q1, q2, ⟨g1, q3.2⟩, s1, s2, r1, r2, hno⟩
        · simp only [p1, Nat.zero_add]
          rw [Nat.zero_add] at p5
          have hf := MapKept.run_findKey (w := w) u2 p5
          have hej : es[j]? = some e' := by simpa using p2
          have hjl : j < es.size := (Array.getElem?_eq_some_iff.1 hej).1
          have hset := MapKept.run_setObj_map (P := P) (.map (es.eraseIdxIfInBounds j) clk) q3.1
          obtain ⟨g1, g2⟩ := MapKept.heap_set (o' := .map (es.eraseIdxIfInBounds j) clk) q3.1
          have her : (es.eraseIdxIfInBounds j).toList = es.toList.eraseIdx j := by
            unfold Array.eraseIdxIfInBounds; rw [dif_pos hjl]; simp
          have hsz : (es.eraseIdxIfInBounds j).size = es.size - 1 := by
            have h := congrArg List.length her
            rw [Array.length_toList, List.length_eraseIdx, if_pos (by simpa using hjl), Array.length_toList] at h; exact h
          have hget : ∀ (i : Nat), (es.eraseIdxIfInBounds j)[i]? = es[if i < j then i else i + 1]? := fun i => by
            have : (es.eraseIdxIfInBounds j)[i]? = (es.eraseIdxIfInBounds j).toList[i]? := Array.getElem?_toList.symm
            rw [this, her, List.getElem?_eraseIdx]; split <;> simp
          refine ⟨_, { w with heap := w.heap.setIfInBounds b (.map (es.eraseIdxIfInBounds j) clk) }, rfl, ?_, Le.setKind hl rfl rfl (by simp), ?_⟩
          · unfold Builtin.delete_
            simp [run_underlying u1, MapKept.run_getObj_map q3.1, hck, hf, hset]
          · refine hrel.turnB hl (by simp) hown hno rfl rfl (Le.setKind hl rfl rfl (by simp)) rfl rfl rfl (Nat.le_refl _) (by simp) (fun k hk => g2 k hk) ?_
            refine ⟨b, (es.eraseIdxIfInBounds j, clk), q1, q2, ⟨g1, MapKept.stamped_erase q3.2 j⟩, by rw [hsz, List.length_eraseIdx, if_pos (by omega)]; omega, by rw [hsz, List.length_eraseIdx, if_pos (by omega)]; omega, fun i e d he hd' => ?_, fun i e d' he hd' => ?_, hno⟩
            · rw [hget] at he; rw [List.getElem?_eraseIdx] at hd'
              split at he
              · rename_i h; rw [if_pos h] at hd'; exact r1 _ e d he hd'
              · rename_i h; rw [if_neg h] at hd'; exact r1 _ e d he hd'
            · rw [hget] at he; rw [List.getElem?_eraseIdx] at hd'
              split at he
              · rename_i h; rw [if_pos h] at hd'; exact r2 _ e d' he hd'
              · rename_i h; rw [if_neg h] at hd'; exact r2 _ e d' he hd'
      · exact hob.elim
    · exact hob.elim
  · exact hob.elim

theorem indexS_ok (hE : TOk P V.E) {t : TypeId} {x i : Value} {tx ti : T} (hx : RdT I m L x tx) (hi : RdT I m L i ti) (hob : (indexS V.E t tx ti).ob) :
    (indexS V.E t tx ti).eff = .none ∧ ∃ u, (Instr.index t x i).run P w = .ok u w ∧ RdT I m L u (indexS V.E t tx ti).t := by
  unfold indexS at hob ⊢
  split at hob
  · rename_i s k n hs h3
    have := intOfT_ok h3 hi; subst this
    have hu := underlying_string hE hs
    have := rdD hx; cases this
    have hn : n.toNat < s.size := by have := hob.2; omega
    have hget : s[n.toNat]? = some s[n.toNat] := by rw [getElem?_pos s n.toNat hn]
    refine ⟨rfl, .int .u8 (byteAt s n.toNat), ?_, .d _ _ (.int _ _)⟩
    unfold Instr.index byteAt
    simp [asIntOf, run_underlying hu, hob.1, hget]
  · exact hob.elim

/-- A new row of which the first n elements are known. -/
theorem WRel.knownC (hrel : WRel w0 I0 w I m L) (e : TypeId) (cs : Array Value) (size : Nat) (ds : List D) (n c : Nat) (hn : ds.length = n) (hs : ∀ d ∈ ds, d.cells.length = size ∧ ∀ x ∈ d.cells, x.one = true) (hnc : n ≤ c) (hlen : n * size ≤ cs.size) (hmax : c ≤ maxLen)
    (hrd : ∀ (j : Nat) x y, cs[j]? = some x → (flat ds)[j]? = some y → Rd I x y) :
    ∃ J, Le I m L J m L ∧ WRel w0 I0 (w.alloc (.cells cs e)) J m L ∧ Rd J (.slice (some ⟨w.heap.size, 0, none⟩) n c) (.slice size ds) := by
  have hno := hrel.sat.noB (Nat.le_refl w.heap.size)
  let J := I.withCells w.heap.size cs.toList
  have hle : I.le J := ⟨fun b o v hc => by
    have hb : b ≠ w.heap.size := by rintro rfl; rw [hno.1 o] at hc; cases hc
    simp [J, Imm.withCells, hb, hc], fun _ _ h => h⟩
  have hout : ∀ b, b ≠ w.heap.size → J.cell b = I.cell b := fun b hb => by funext o; simp [J, Imm.withCells, hb]
  have hsat : SatI (w.alloc (.cells cs e)) J := ⟨fun b o v hc => by
    by_cases hb : b = w.heap.size
    · subst hb
      simp only [J, Imm.withCells, if_true] at hc
      rw [World.cell?_alloc_new]
      cases hx : cs[o]? with
      | none => simp [hx, hno.1 o] at hc
      | some x => simpa [hx] using hc
    · rw [hout b hb] at hc
      rw [World.cell?_alloc_lt w _ _ (hrel.sat.lt hc)]; exact hrel.sat.cell b o v hc, fun b es hc => by
    have hh := hrel.sat.mp b es hc
    exact MapAt.to (Below.heap_alloc w _ b (hrel.sat.ltm hc)) hh⟩
  obtain ⟨r1, r2⟩ := hrel.call (Bel.alloc (Bel.refl _ _) (Nat.le_refl _) _) ⟨hle, fun b hb => hout b (by omega), fun _ _ => rfl⟩ hsat
  refine ⟨J, r2, r1, .slice _ 0 n c size ds (fun k => (cs[k]?).getD undef) hn hnc hmax hs (fun k hk => ?_) (fun k x hx => ?_)⟩
  · have : cs[k]? = some (cs[k]'(by omega)) := Array.getElem?_eq_getElem (by omega)
    simp [J, Imm.withCells, this]
  · have hk : k < n * size := by rw [← hn, ← flat_len ds (fun d hd => (hs d hd).1)]; exact (List.getElem?_eq_some_iff.1 hx).1
    have : cs[k]? = some (cs[k]'(by omega)) := Array.getElem?_eq_getElem (by omega)
    rw [this]; exact (hrd k _ x this hx).mono hle

theorem WRel.drew (h : WRel w0 I0 w I m L) : WRel w0 I0 w.drew I m L := ⟨h.below.drew, ⟨h.sat.cell, h.sat.mp⟩, h.ext, fun id o ho => (h.obj id o ho).keep (Le.refl I m L) (fun _ _ => rfl) (fun _ _ => ⟨rfl, rfl⟩), h.sep⟩

theorem flat_ints : ∀ (ds : List D), (∀ d ∈ ds, ∃ n, d = .int .i32 n) → flat ds = ds
  | [], _ => rfl
  | d :: ds, h => by
    obtain ⟨n, rfl⟩ := h d (by simp)
    have ih := flat_ints ds (fun x hx => h x (by simp [hx]))
    unfold flat at ih ⊢
    rw [List.flatMap_cons, ih]; rfl

theorem conv_ok (hE : TOk P V.E) (hrel : WRel w0 I0 w I m L) {src t : TypeId} {x : Value} {tx : T} (hx : RdT I m L x tx) (hob : (convT V.E src t tx).ob) :
    (convT V.E src t tx).eff = .none ∧ ∃ u w' J, (convert src t x).run P w = .ok u w' ∧ Le I m L J m L ∧ WRel w0 I0 w' J m L ∧ RdT J m L u (convT V.E src t tx).t := by
  have intk : ∀ {t : TypeId} {s b : Nat} {z : List D} {k : IntKind}, V.E t = some ⟨s, b, z, .intk k⟩ → P.underlying t = some (.int k) := by
    intro t s b z k hs
    obtain ⟨x, z', _, _, _, _, _, _, h7, _⟩ := tiOk_parts (hE t _ hs)
    simp only [descOk] at h7
    split at h7
    · rename_i k' he; simp at h7; subst h7; exact he
    · cases h7
  unfold convT at hob ⊢
  split at hob
  · rename_i k0 k k' n hs0 hs
    have hu := intk hs
    have hds := intk hs0
    have := rdD hx; cases this
    refine ⟨rfl, .int k (k.wrap n), w, I, ?_, .refl .., hrel, .d _ _ (.int _ _)⟩
    unfold convert
    simp [run_underlying hds, run_underlying hu, Conv.intToInt]
  · rename_i e s hs0 hs
    split at hob
    · rename_i he
      have hu := underlying_slice hE hs
      have hue := intk he
      have := rdD hx; cases this
      have hsz : (Conv.runesFrom s s.size 0 #[]).size ≤ 16777216 := by
        have := size_runesFrom s s.size 0 #[]; simp at this; have h2 : s.size ≤ 16777216 := hob; omega
      have hrun := run_runes_of_string (P := P) w src t e s (underlying_string hE hs0) hu hue (by omega)
      have hint := runes_int s s.size 0 #[] (by simp)
      generalize hr : Conv.runesFrom s s.size 0 #[] = rs at *
      have hD : runesD s = rs.toList.map runeD := by unfold runesD; rw [hr]
      have hds : ∀ d ∈ runesD s, ∃ n, d = .int .i32 n := by
        rw [hD]; intro d hd
        obtain ⟨v, hv, rfl⟩ := List.mem_map.1 hd
        obtain ⟨n, rfl⟩ := hint v hv
        exact ⟨n, rfl⟩
      obtain ⟨J, q1, q2, q3⟩ := (hrel.drew).knownC e (rs ++ Array.replicate (grownCap w rs.size 0 e - rs.size) (.int .i32 0)) 1 (runesD s) rs.size (grownCap w rs.size 0 e) (by simp [hD]) (fun d hd => by obtain ⟨n, rfl⟩ := hds d hd; simp [D.cells, D.one]) (grownCap_ge w rs.size 0 e) (by simp)
        (by have h0 : grownCap w rs.size 0 e = rs.size + w.tape w.drawn (.appendCap rs.size 0 e) % (2 ^ 63 - rs.size) := rfl
            have : w.tape w.drawn (Question.appendCap rs.size 0 e) % (2 ^ 63 - rs.size) < 2 ^ 63 - rs.size := Nat.mod_lt _ (by omega)
            rw [h0]; unfold maxLen; omega)
        (fun j x y hx hy => by
          rw [flat_ints _ hds, hD] at hy
          rw [List.getElem?_map] at hy
          have hj : j < rs.size := by
            cases hq : rs.toList[j]? with
            | none => rw [hq] at hy; simp at hy
            | some z => have := (List.getElem?_eq_some_iff.1 hq).1; simpa using this
          rw [Array.getElem?_append_left hj] at hx
          have hx' : rs.toList[j]? = some x := by simpa using hx
          rw [hx'] at hy; simp at hy; subst hy
          obtain ⟨n, rfl⟩ := hint x (List.mem_of_getElem? hx')
          exact .int _ _)
      exact ⟨rfl, _, _, J, hrun, q1, q2, .d _ _ q3⟩
    · exact hob.elim
  · exact hob.elim

theorem WRel.pushA {ob : AO} (hrel : WRel w0 I0 w I m l) {w' : World} {v : Value} {b0 : Nat} (hown : own v = some b0) (hb0 : w.heap.size ≤ b0)
    (hg : w.grownBy w' none) (hdr : w.drawn ≤ w'.drawn) (hoe : ∀ e s els, ob ≠ .row e s els ∧ ob ≠ .frow e s els) (hok : ObjOk w0.heap.size w' I (upd m l.length v) (l ++ [ob]) v ob) :
    Le I m l I (upd m l.length v) (l ++ [ob]) ∧ WRel w0 I0 w' I (upd m l.length v) (l ++ [ob]) := by
  have hget : ∀ k, k < l.length → (l ++ [ob])[k]? = l[k]? := fun k hk => List.getElem?_append_left (by omega)
  have hlast : (l ++ [ob])[l.length]? = some ob := by simp
  have hle : Le I m l I (upd m l.length v) (l ++ [ob]) := by
    refine ⟨.refl I, by simp, fun id hid hv => ⟨?_, upd_ne m v (by omega)⟩, fun id hid hr => ⟨?_, upd_ne m v (by omega)⟩, fun id e' s' els' hid hh => ⟨els', ?_⟩⟩
    · unfold isVar at hv ⊢; rw [hget id hid]; exact hv
    · unfold isRow at hr ⊢; rw [hget id hid] at hr; exact hr
    · rw [hget id hid] at hh; exact hh
  have hold : ∀ k, alive l k = true → ∀ b, own (m k) = some b → b < w.heap.size := by
    intro k hk b hb
    obtain ⟨o, ho, hd⟩ := alive_iff.1 hk
    exact ((hrel.obj k o ho).lt hd hb).1
  refine ⟨hle, ⟨hrel.below.trans ⟨hg.os, hg.tape, hg.output, hg.size, fun k hk => hg.block k (by have := hrel.below.size; omega) (by simp), fun _ => hdr⟩, ⟨fun b o u hc => ?_, fun b es hc => ?_⟩, hrel.ext, fun id o ho => ?_, fun i j b hij hi hj hbi hbj => ?_⟩⟩
  · exact (World.cell?_of_block (w := w) (a := ⟨b, o, none⟩) (hg.block b (hrel.sat.lt hc) (by simp))).trans (hrel.sat.cell b o u hc)
  · have hh := hrel.sat.mp b es hc
    exact MapAt.to (hg.block b (hrel.sat.ltm hc) (by simp)) hh
  · by_cases hid : id < l.length
    · rw [hget id hid] at ho; rw [upd_ne m v (by omega)]
      by_cases hd : o = .dead
      · subst hd; trivial
      · exact (hrel.obj id o ho).keep hle (fun b hb => hg.block b ((hrel.obj id o ho).lt hd hb).1 (by simp)) (fun _ _ => ⟨rfl, rfl⟩)
    · have : id = l.length := by
        have := (List.getElem?_eq_some_iff.1 ho).1; simp at this; omega
      subst this
      rw [hlast] at ho; injection ho with ho; subst ho
      rw [upd_same]
      exact hok
  · have hal : ∀ k, k ≠ l.length → alive (l ++ [ob]) k = true → alive l k = true := by
      intro k hk ha
      obtain ⟨o, ho, hd⟩ := alive_iff.1 ha
      have hkl : k < l.length := by have := (List.getElem?_eq_some_iff.1 ho).1; simp at this; omega
      rw [hget k hkl] at ho
      exact alive_iff.2 ⟨o, ho, hd⟩
    by_cases h1 : i = l.length
    · subst h1; rw [upd_same] at hbi; rw [upd_ne m v (Ne.symm hij)] at hbj
      rw [hown] at hbi; injection hbi with hbi
      have := hold j (hal j (Ne.symm hij) hj) b hbj; omega
    · by_cases h2 : j = l.length
      · subst h2; rw [upd_same] at hbj; rw [upd_ne m v hij] at hbi
        rw [hown] at hbj; injection hbj with hbj
        have := hold i (hal i hij hi) b hbi; omega
      · rw [upd_ne m v h1] at hbi; rw [upd_ne m v h2] at hbj
        exact hrel.sep i j b hij (hal i h1 hi) (hal j h2 hj) hbi hbj

theorem WRel.pushM (hrel : WRel w0 I0 w I m l) {w' : World} {v : Value} {b0 : Nat} (hown : own v = some b0) (hb0 : w.heap.size ≤ b0)
    (hg : w.grownBy w' none) (hdr : w.drawn ≤ w'.drawn) (hok : ObjOk w0.heap.size w' I m l v (.map [] [])) :
    Le I m l I (upd m l.length v) (l ++ [.map [] []]) ∧ WRel w0 I0 w' I (upd m l.length v) (l ++ [.map [] []]) := hrel.pushA hown hb0 hg hdr (by simp) hok

theorem bornAt_get {es : ME} {i : Nat} {e : MapEntry} (h : es.1[i]? = some e) : bornAt es i = e.born := by simp [bornAt, h]
theorem range_ok {tx : T} (hE : TOk P V.E) (hrel : WRel w0 I0 w I m L) {t : TypeId} {x : Operand} (ho : o.op = .range t x) (hx : RdT I m L (ρ x) tx) (hob : (rangeT V.E t l nid tx).ob) : RSound P w0 I0 o ρ w I m l L nid (rangeT V.E t l nid tx) := by
  unfold rangeT at hob ⊢
  split at hob
  · rename_i kt e id hs
    split at hob
    · rename_i ks vs l' hd
      try simp only [hd]
      rintro rfl rfl
      have hu : P.underlying t = some (.map kt e) := by
        obtain ⟨x, z', _, _, _, _, _, _, h7, _⟩ := tiOk_parts (hE t _ hs)
        simp only [descOk] at h7
        split at h7
        · rename_i k' e' he; simp at h7; obtain ⟨rfl, rfl⟩ := h7; exact he
        · cases h7
      have hv : ∃ b, ρ x = .map (some b) := by
        generalize hvx : ρ x = vx at hx
        cases hx with
        | map r _ p1 p2 =>
          simp only [toD] at hd
          split at hd
          · rename_i hl
            obtain ⟨b, es, q1, _⟩ := hrel.obj id _ hl
            have := p2 (by unfold isRow; rw [hl]; rfl)
            rw [q1] at this; injection this with this; exact ⟨b, by rw [← this]⟩
          · rename_i hl
            obtain ⟨b, es, q1, _⟩ := hrel.obj id _ hl
            have := p2 (by unfold isRow; rw [hl]; rfl)
            rw [q1] at this; injection this with this; exact ⟨b, by rw [← this]⟩
          · cases hd
      obtain ⟨b, hvb⟩ := hv
      obtain ⟨J, hle, hr1, hrd, hlen⟩ := toD_ok hrel hx hd
      rw [hvb] at hrd
      cases hrd with
      | map _ es _ _ q1 q2 q3 q4 q5 =>
        have hh := hr1.sat.mp b es q1
        have hrun := run_range_map (P := P) w t kt e b es.1 es.2 hu hh.1
        have hex : (execOp ρ o).run P w = .ok (.value (.pointer (some ⟨w.heap.size, 0, none⟩))) (w.alloc (.mapIter (some b) es.2 #[] es.2)) := by
          unfold execOp; simp [ho, hvb, hrun]
        simp only [hex, StepOk]
        obtain ⟨k1, k2⟩ := hr1.pushA (ob := .iter ks vs []) (w' := w.alloc (.mapIter (some b) es.2 #[] es.2)) (v := .pointer (some ⟨w.heap.size, 0, none⟩)) rfl (Nat.le_refl _) (World.grownBy_alloc w _ _) (Nat.le_refl _) (by simp)
          ⟨w.heap.size, b, es, #[], rfl, hrel.below.size, heap_alloc_new w _, q1, q2, q3, q4, q5, ⟨rfl, by simp⟩, hr1.sat.noB (Nat.le_refl _)⟩
        refine ⟨J, _, hle.trans k1, k2, ?_⟩
        rw [← hlen]
        exact .ptr _ _ 0 (by unfold isVar; simp [AO.isVar]) (upd_same m _ _)
    · exact hob.elim
  · exact hob.elim
theorem entry_ok {tx : T} (hrel : WRel w0 I0 w I m L) (hc : Com l L) {x : Operand} (ho : o.op = .entry x) (hx : RdT I m L (ρ x) tx) (hob : (entryT l tx).ob) : RSound P w0 I0 o ρ w I m l L nid (entryT l tx) := by
  unfold entryT at hob ⊢
  split at hob
  · rename_i id
    split at hob
    · rename_i ks vs done hl
      split at hob
      · rename_i i hi
        split at hob
        · rename_i k v hk hv
          try simp only [hl, hi, hk, hv]
          obtain ⟨b, mb, es, seen, q1, q2, q3, q4, q5, q6, q7, q8, ⟨q9, q10⟩, q11⟩ := hrel.obj id _ (hc.get hl)
          generalize hvx : ρ x = vx at hx
          cases hx with
          | ptr _ b' _ p1 p2 =>
            rw [q1] at p2; injection p2 with p2; injection p2 with p2; injection p2 with p2; subst p2
            have hh := hrel.sat.mp mb es q4
            have hil : i < es.1.size := q10 i (List.mem_of_getLast? hi)
            have hei : es.1[i]? = some es.1[i] := Array.getElem?_eq_getElem hil
            obtain ⟨init, hinit⟩ : ∃ init, done = init ++ [i] := by
              obtain ⟨ys, hys⟩ := List.getLast?_eq_some_iff.1 hi
              exact ⟨ys, hys⟩
            have hseen : seen = (init.map (bornAt es)).toArray.push es.1[i].born := by
              apply Array.toList_inj.1
              rw [q9, hinit]; simp [bornAt_get hei]
            rw [hseen] at q3
            have hrun := run_entry_at (P := P) w b mb es.2 _ es.1 es.2 es.1[i] q3 hh.1 (by simp) hh.2.2.1
            refine RSound.val hrel rfl (u := .tuple #[es.1[i].key, es.1[i].val]) (by unfold execOp; simp [ho, hvx, hrun]) (.d _ _ (.tup _ _ rfl fun j u d hu hd => ?_))
            rcases j with _ | _ | j
            · simp at hu hd; subst hu; subst hd; exact q7 i _ _ hei hk
            · simp at hu hd; subst hu; subst hd; exact q8 i _ _ hei hv
            · simp at hu
        · exact hob.elim
      · exact hob.elim
    · exact hob.elim
  · exact hob.elim

theorem makeMap_ok (hrel : WRel w0 I0 w I m l) {t : TypeId} (ho : o.op = .makeMap t none) : RSound P w0 I0 o ρ w I m l L nid ⟨.map nid, .upd (l ++ [.map [] []]), True⟩ := by
  rintro rfl rfl
  have hx : (execOp ρ o).run P w = .ok (.value (.map (some w.heap.size))) (w.alloc (.map #[] 0)) := by
    unfold execOp; simp [ho, Instr.makeMap]
  simp only [hx, StepOk]
  obtain ⟨q1, q2⟩ := hrel.pushM (w' := w.alloc (.map #[] 0)) (v := .map (some w.heap.size)) rfl (Nat.le_refl _) (World.grownBy_alloc w _ _) (Nat.le_refl _) ⟨_, (#[], 0), rfl, hrel.below.size, ⟨heap_alloc_new w _, MapKept.stamped_empty 0⟩, rfl, rfl, by simp, by simp, hrel.sat.noB (Nat.le_refl _)⟩
  exact ⟨I, _, q1, q2, .map _ _ (by simp) (fun _ => upd_same m _ _)⟩
end
end Go.Eva

/-
  Eva, part M: 'evalOp' is sound.
-/
namespace Go.Eva
open Go Go.RowKit
variable [Drw]

section
variable {P : Program} {V : Env} {w0 w : World} {I0 I : Imm} {m : Nat → Value} {l L : List AO} {nid : Nat} {o : Oper} {ρ : Operand → Value} {ρT : Operand → T}

theorem RSound.bad {r : R} (h : r.ob → RSound P w0 I0 o ρ w I m l L nid r) (hob : r.ob) : RSound P w0 I0 o ρ w I m l L nid r := h hob

theorem exec_call_builtin {c : Call} {b : Builtin} (hcal : c.callee = .builtin b) (ho : o.op = .call c) {s : Sem Value} (hb : ∀ k, builtin b c.argTypes o.type k (c.args.map ρ) = (do pure (.value (← s)))) {u : Value} {w' : World} (hs : s.run P w = .ok u w') :
    (execOp ρ o).run P w = .ok (.value u) w' := by
  unfold execOp
  simp only [ho, resolve, hcal, Sem.run_bind, Sem.run_pure, Result.andThen_ok, invoke, hb, hs]

theorem put_sound (hE : TOk P V.E) (hrel : WRel w0 I0 w I m L) {t : TypeId} {mm k x : Operand} (ho : o.op = .mapUpdate t mm k x ∨ o.op = .insert t mm k x) (hr : ∀ x ∈ o.op.operands, RdT I m L (ρ x) (ρT x)) (hob : (mapPutT V.E t l (ρT mm) (ρT k) (ρT x)).ob) :
    RSound P w0 I0 o ρ w I m l L nid (mapPutT V.E t l (ρT mm) (ρT k) (ρT x)) := by
  have hm := hr mm (by rcases ho with ho | ho <;> simp [ho, Op.operands])
  have hk := hr k (by rcases ho with ho | ho <;> simp [ho, Op.operands])
  have hx := hr x (by rcases ho with ho | ho <;> simp [ho, Op.operands])
  have heff : ∃ l', (mapPutT V.E t l (ρT mm) (ρT k) (ρT x)).eff = .upd l' ∧ (mapPutT V.E t l (ρT mm) (ρT k) (ρT x)).t = .undef := by
    generalize ρT mm = ts at *; generalize ρT k = tk at *; generalize ρT x = tx at *
    unfold mapPutT at hob ⊢
    repeat' split at hob
    all_goals first | exact hob.elim | skip
    all_goals simp only [*]
    all_goals exact ⟨_, rfl, rfl⟩
  obtain ⟨l', hl', ht⟩ := heff
  unfold RSound
  rw [hl']
  rintro rfl hn
  obtain ⟨l'', w', h1, h2, h3, h4⟩ := put_ok hE hrel hm hk hx hob
  rw [hl'] at h1; injection h1 with h1; subst h1
  have hex : (execOp ρ o).run P w = .ok .skip w' := by unfold execOp; rcases ho with ho | ho <;> simp [ho, h2]
  simp only [hex, StepOk]
  exact ⟨I, m, h3, h4, by rw [ht]; exact .undef _⟩

theorem evalOp_sound (hV : VOk P V) (hrel : WRel w0 I0 w I m L) (hc : Com l L) (hr : ∀ x ∈ o.op.operands, RdT I m L (ρ x) (ρT x)) (hob : (evalOp V ρT l nid o).ob) : RSound P w0 I0 o ρ w I m l L nid (evalOp V ρT l nid o) := by
  unfold evalOp at hob ⊢
  split at hob
  · -- move
    rename_i x ho
    exact RSound.val hrel rfl (u := ρ x) (by unfold execOp; simp [ho]) (typed_ok (hr x (by simp [ho, Op.operands])))
  · -- assign
    rename_i x ho
    exact RSound.val hrel rfl (u := ρ x) (by unfold execOp; simp [ho]) (typed_ok (hr x (by simp [ho, Op.operands])))
  · -- pick
    rename_i c a b ho
    exact pick_ok hrel ho hr hob
  · -- box
    rename_i e x ho
    exact box_ok hrel ho (hr x (by simp [ho, Op.operands])) hob
  · -- alloc
    rename_i e ho
    split at hob
    · rename_i i hi
      try simp only [hi]
      exact alloc_ok hV.E hrel ho hi
    · exact hob.elim
  · -- load
    rename_i t a ho
    obtain ⟨h1, u, h2, h3⟩ := loadAs_ok hV.E hrel hc (hr a (by simp [ho, Op.operands])) hob
    exact RSound.val hrel h1 (by unfold execOp; simp [ho, h2]) h3
  · -- store
    rename_i t a x ho
    split at hob
    · rename_i hn
      simp only [if_pos hn]
      have ha := hr a (by simp [ho, Op.operands])
      have hx := hr x (by simp [ho, Op.operands])
      generalize hta : ρT a = ta at *
      unfold storeAs at hob ⊢
      split at hob
      · rename_i id off y
        split at hob
        · rename_i t' cs hl
          split at hob
          · rename_i hle
            simp only [if_pos hle]
            rintro rfl hnid
            generalize hva : ρ a = va at ha
            cases ha with
            | ptr _ b _ q1 q2 =>
              obtain ⟨w', h1, h2⟩ := store_ok hV.E hrel hl q2 hx hob hn.1 (by omega) hle
              have hex : (execOp ρ o).run P w = .ok .skip w' := by unfold execOp; simp [ho, hva, h1]
              simp only [hex, StepOk]
              exact ⟨I, m, Le.setVar hl, h2, .undef _⟩
          · exact hob.elim
        · exact hob.elim
      · rename_i id k y heq2
        split at hob
        · rename_i e' size els hl
          rw [heq2] at hx hn
          obtain ⟨hb1, hb2, hb3⟩ := hob
          rintro rfl hnid
          generalize hva : ρ a = va at ha
          cases ha with
          | rptr ad _ _ _ q1 q2 =>
            obtain ⟨w', h1, h2, h3⟩ := rowStore_ok (ty := t) hV.E hrel hl (.rptr ad id k 0 q1 q2) (rdD hx) hb1 hb2 hb3 (by simpa [cellsT] using hn.1) (by have := hn.1; simp [cellsT] at this; omega)
            have hex : (execOp ρ o).run P w = .ok .skip w' := by unfold execOp; simp [ho, hva, h1]
            simp only [hex, StepOk]
            exact ⟨I, m, h2, h3, .undef _⟩
        · exact hob.elim
      · exact hob.elim
    · exact hob.elim
  · -- fieldAddr
    rename_i s x f ho
    obtain ⟨h1, u, h2, h3⟩ := field_ok (w := w) hV.E (hr x (by simp [ho, Op.operands])) hob
    exact RSound.val hrel h1 (by unfold execOp; simp [ho, h2]) h3
  · -- field
    rename_i s x f ho
    obtain ⟨h1, u, h2, h3⟩ := fieldV_ok (w := w) hV.E (hr x (by simp [ho, Op.operands])) hob
    exact RSound.val hrel h1 (by unfold execOp; simp [ho, h2]) h3
  · -- binOp
    rename_i op ty x y t' ho
    have hx := hr x (by simp [ho, Op.operands])
    have hy := hr y (by simp [ho, Op.operands])
    split at hob
    · rename_i a b h1 h2
      rw [h1] at hx; rw [h2] at hy
      unfold ofD at hob ⊢
      split at hob
      · rename_i r ob hb
        obtain ⟨z, h3, h4⟩ := bin_ok (w := w) (x := x) (y := y) hV.eq (rdD hx) (rdD hy) hb hob
        try simp only [h1, h2, hb]
        exact RSound.val hrel rfl (by unfold execOp; simp only [ho, Sem.run_bind] at h3 ⊢; rw [h3]; rfl) (.d _ _ h4)
      · exact hob.elim
    · exact hob.elim
  · -- unOp
    rename_i op ty x ho
    have hx := hr x (by simp [ho, Op.operands])
    split at hob
    · rename_i a h1
      rw [h1] at hx
      unfold ofD at hob ⊢
      split at hob
      · rename_i r ob hb
        obtain ⟨z, h3, h4⟩ := un_ok (P := P) (w := w) (rdD hx) hb hob
        try simp only [h1, hb]
        exact RSound.val hrel rfl (by unfold execOp; simp [ho, h3]) (.d _ _ h4)
      · exact hob.elim
    · exact hob.elim
  · -- indexAddr
    rename_i t x i ho
    obtain ⟨h1, u, h2, h3⟩ := index_ok hV.E hrel hc (hr x (by simp [ho, Op.operands])) (hr i (by simp [ho, Op.operands])) hob
    exact RSound.val hrel h1 (by unfold execOp; simp [ho, h2]) h3
  · -- slice
    rename_i t x lo hi ho
    have hx := hr x (by simp [ho, Op.operands])
    split at hob
    · rename_i e size els hs hxe
      rw [hxe] at hx
      split at hob
      · rename_i hsz
        simp only [if_pos hsz]
        obtain ⟨h1, u, h2, h3⟩ := slice_ok (w := w) (lo := lo) (hi := hi) (ρ := ρ) (ρT := ρT) hV.E hs hx (fun a ha => hr a (by subst ha; simp [ho, Op.operands])) (fun a ha => hr a (by subst ha; simp [ho, Op.operands]))
          (fun s' e' he => by injection he with he; injection he with h1 h2; subst h1; exact hsz) hob
        exact RSound.val hrel h1 (by unfold execOp; simp [ho, h2]) h3
      · exact hob.elim
    · rename_i e id hs hxe
      rw [hxe] at hx
      split at hob
      · rename_i size els l' hd
        split at hob
        · rename_i hsz
          simp only [if_pos hsz]
          rintro rfl hnid
          obtain ⟨J, le, r1, hrd, _⟩ := toD_ok hrel hx hd
          obtain ⟨h1, u, h2, h3⟩ := slice_ok (w := w) (lo := lo) (hi := hi) (ρ := ρ) (ρT := ρT) (I := J) (m := m) (L := l') hV.E hs (.d _ _ hrd) (fun a ha => (hr a (by subst ha; simp [ho, Op.operands])).mono le) (fun a ha => (hr a (by subst ha; simp [ho, Op.operands])).mono le)
            (fun s' e' he => by injection he with he; injection he with h1 h2; subst h1; exact hsz) hob
          have hex : (execOp ρ o).run P w = .ok (.value u) w := by unfold execOp; simp [ho, h2]
          simp only [hex, StepOk]
          exact ⟨J, m, le, r1, h3⟩
        · exact hob.elim
      · exact hob.elim
    · exact hob.elim
  · -- build
    rename_i t parts ho
    split at hob
    · rename_i z fs hs
      split at hob
      · rename_i hall
        split at hob
        · rename_i ds hf
          simp only [if_pos hall]
          obtain ⟨u, h1, h2⟩ := build_ok (P := P) (w := w) (I := I) (m := m) (L := L) (ρ := ρ) (ρT := ρT) hV.E hs (fun p hp => hr p.2 (by simp only [ho, Op.operands]; simp; exact ⟨p.1, by simpa using hp⟩)) hf (fun f hf' => List.all_eq_true.1 hall f hf')
          exact RSound.val hrel rfl (by unfold execOp; simp [ho, h1]) (.d _ _ h2)
        · exact hob.elim
      · exact hob.elim
    · exact hob.elim
  · -- buildSlice
    rename_i t len parts ho
    split at hob
    · rename_i e hs
      split at hob
      · rename_i he
        simp only [if_pos he]
        split at hob
        · rename_i hlen
          simp only [if_pos hlen]
          subst hlen
          rintro rfl rfl
          have hpe : parts = #[] := by simpa using hob
          subst hpe
          have hu := underlying_slice hV.E hs
          obtain ⟨i, hi⟩ := Option.isSome_iff_exists.1 he.1
          have hsz : sizeE V.E e = i.size := by simp [sizeE, hi]
          have hex : (execOp ρ o).run P w = .ok (.value (.slice (some ⟨w.heap.size, 0, none⟩) 0 0)) (w.alloc (.cells #[] e)) := by
            unfold execOp
            simp [ho, Instr.buildSlice, run_underlying hu, run_sizeOf_ti hV.E hi, Instr.fill, newRow, Array.range_zero']
          simp only [hex, StepOk]
          obtain ⟨q1, q2, q3⟩ := hrel.push_row (w' := w.alloc (.cells #[] e)) (v := .slice (some ⟨w.heap.size, 0, none⟩) 0 0) (row := none) (lo := L) (e := e) (size := sizeE V.E e) (els := []) (xs := []) rfl (fun k a ha => .inr ha) (fun _ _ _ h => h)
            (World.grownBy_alloc w _ _) (Nat.le_refl _) (fun b hb => by cases hb)
            (fun b hb => by
              simp [own] at hb; subst hb
              refine ⟨hrel.below.size, hrel.sat.noB (Nat.le_refl _), fun k hk he => ?_⟩
              obtain ⟨a, ha, hda⟩ := alive_iff.1 hk
              have := ((hrel.obj k a ha).lt hda he).1; omega)
            ⟨by simp, .inr ⟨w.heap.size, 0, #[], rfl, hrel.below.size, heap_alloc_new w _, Nat.zero_le _, Nat.zero_le _, by simp, by simp⟩⟩ (by simp) (by simp [flat]) ⟨_, _, _, rfl⟩
          exact ⟨I, _, q1, q2, q3⟩
        · rename_i hlen
          simp only [if_neg hlen]
          split at hob
          · rename_i ds hm
            split at hob
            · rename_i hcc
              simp only [if_pos hcc]
              obtain ⟨w', J, h1, h2, h3, h4⟩ := buildSlice_ok hV.E hrel hs (ρ := ρ) (fun p hp => hr p.2 (by simp only [ho, Op.operands]; simp; exact ⟨p.1, by simpa using hp⟩)) hm he hlen hcc
              unfold RSound
              have hex : (execOp ρ o).run P w = .ok (.value (.slice (some ⟨w.heap.size, 0, none⟩) len len)) w' := by unfold execOp; simp [ho, h1]
              simp only [R.ok, hex, StepOk]
              exact ⟨J, h2, h3, .d _ _ h4⟩
            · exact hob.elim
          · exact hob.elim
      · exact hob.elim
    · exact hob.elim
  · -- extract
    rename_i x i ho
    have hx := hr x (by simp [ho, Op.operands])
    split at hob
    · rename_i ds hxd
      rw [hxd] at hx
      split at hob
      · rename_i d hd
        try simp only [hxd, hd]
        have := rdD hx
        generalize hvx : ρ x = vx at this
        cases this with
        | tup vs _ q1 q2 =>
          have hlt : i < vs.size := by rw [q1]; exact (List.getElem?_eq_some_iff.1 hd).1
          have hv : vs[i]? = some vs[i] := Array.getElem?_eq_getElem hlt
          exact RSound.val hrel rfl (u := vs[i]) (by unfold execOp; simp [ho, hvx, Instr.extract, hlt]) (.d _ _ (q2 i _ _ hv hd))
      · exact hob.elim
    · rename_i ts hxd
      rw [hxd] at hx
      split at hob
      · rename_i d hd
        try simp only [hxd, hd]
        generalize hvx : ρ x = vx at hx
        cases hx with
        | tup vs _ q1 q2 =>
          have hlt : i < vs.size := by rw [q1]; exact (List.getElem?_eq_some_iff.1 hd).1
          have hv : vs[i]? = some vs[i] := Array.getElem?_eq_getElem hlt
          exact RSound.val hrel rfl (u := vs[i]) (by unfold execOp; simp [ho, hvx, Instr.extract, hlt]) (q2 i _ _ hv hd)
      · exact hob.elim
    · exact hob.elim
  · -- call
    rename_i c ho
    split at hob
    · rename_i f hcal
      try simp only [hcal]
      split at hob
      · rename_i g hf
        try simp only [hf]
        exact callT_ok hV hrel hc hcal ho hr hf hob
      · exact hob.elim
    · rename_i hcal
      try simp only [hcal]
      split at hob
      · rename_i x t ha ht
        try simp only [ha, ht]
        have hx := hr x (by simp [ho, Op.operands, Call.operands, hcal]; rw [← Array.mem_toList_iff, ha]; simp)
        obtain ⟨h1, u, h2, h3⟩ := lenT_ok (ty := o.type) hV.E hrel hc hx hob
        refine RSound.val hrel h1 (exec_call_builtin hcal ho (fun k => rfl) ?_) h3
        have e1 : c.args.map ρ = #[ρ x] := by apply Array.toList_inj.1; simp [ha]
        have e2 : c.argTypes = #[t] := by apply Array.toList_inj.1; simp [ht]
        rw [e1, e2]; exact h2
      · exact hob.elim
    · rename_i hcal
      try simp only [hcal]
      split at hob
      · rename_i s x t t' ha ht
        try simp only [ha, ht]
        split at hob
        · rename_i htt
          subst htt
          simp only [if_true]
          have hs := hr s (by simp [ho, Op.operands, Call.operands, hcal]; rw [← Array.mem_toList_iff, ha]; simp)
          have hx := hr x (by simp [ho, Op.operands, Call.operands, hcal]; rw [← Array.mem_toList_iff, ha]; simp)
          have e1 : c.args.map ρ = #[ρ s, ρ x] := by apply Array.toList_inj.1; simp [ha]
          have e2 : c.argTypes = #[t, t] := by apply Array.toList_inj.1; simp [ht]
          -- the effect is 'upd' whatever the objects
          have heff : ∃ l', (appendT V.E t l nid (ρT s) (ρT x)).eff = .upd l' := by
            generalize ρT s = ts at *; generalize ρT x = tx at *
            unfold appendT at hob ⊢
            repeat' split at hob
            all_goals first | exact hob.elim | skip
            all_goals simp only [*]
            all_goals exact ⟨_, rfl⟩
          obtain ⟨l', hl'⟩ := heff
          unfold RSound
          rw [hl']
          rintro rfl hn
          obtain ⟨l'', v', w', J, m', h1, h2, h3, h4, h5⟩ := append_ok (nid := nid) (ty := o.type) (t := t) hV.E hrel hs hx hn hob
          rw [hl'] at h1; injection h1 with h1; subst h1
          have hex : (execOp ρ o).run P w = .ok (.value v') w' := exec_call_builtin hcal ho (fun k => rfl) (by rw [e1, e2]; exact h2)
          simp only [hex, StepOk]
          exact ⟨J, m', h3, h4, h5⟩
        · exact hob.elim
      · exact hob.elim
    · rename_i hcal
      try simp only [hcal]
      split at hob
      · rename_i x k t t2 ha ht
        try simp only [ha, ht]
        have hx := hr x (by simp [ho, Op.operands, Call.operands, hcal]; rw [← Array.mem_toList_iff, ha]; simp)
        have hk := hr k (by simp [ho, Op.operands, Call.operands, hcal]; rw [← Array.mem_toList_iff, ha]; simp)
        have e1 : c.args.map ρ = #[ρ x, ρ k] := by apply Array.toList_inj.1; simp [ha]
        have e2 : c.argTypes = #[t, t2] := by apply Array.toList_inj.1; simp [ht]
        have heff : ∃ l', (mapDelT V.E t l (ρT x) (ρT k)).eff = .upd l' := by
          generalize ρT x = ts at *; generalize ρT k = tx at *
          unfold mapDelT at hob ⊢
          repeat' split at hob
          all_goals first | exact hob.elim | skip
          all_goals simp only [*]
          all_goals exact ⟨_, rfl⟩
        obtain ⟨l', hl'⟩ := heff
        unfold RSound
        rw [hl']
        rintro rfl hn
        obtain ⟨ht0, l'', w', h1, h2, h3, h4⟩ := del_ok (t2 := t2) (ty := o.type) hV.E hrel hx hk hob
        rw [hl'] at h1; injection h1 with h1; subst h1
        have hex : (execOp ρ o).run P w = .ok (.value (.tuple #[])) w' := exec_call_builtin hcal ho (fun k => rfl) (by rw [e1, e2]; exact h2)
        simp only [hex, StepOk]
        exact ⟨I, m, h3, h4, by rw [ht0]; exact .d _ _ (.tup _ _ rfl (by simp))⟩
      · exact hob.elim
    · rename_i hcal
      try simp only [hcal]
      split at hob
      · rename_i k a k' b hab
        split at hob
        · rename_i hk
          subst hk
          simp only [if_true]
          have hargs : ∃ x y, c.args.toList = [x, y] ∧ ρT x = .d (.int k a) ∧ ρT y = .d (.int k b) := by
            match hl : c.args.toList, hab with
            | [x, y], hab => simp at hab; exact ⟨x, y, rfl, hab.1, hab.2⟩
            | [], hab => simp at hab
            | [x], hab => simp at hab
            | x :: y :: z :: r, hab => simp at hab
          obtain ⟨x, y, hl, h1, h2⟩ := hargs
          have hx := hr x (by simp [ho, Op.operands, Call.operands, hcal]; rw [← Array.mem_toList_iff, hl]; simp)
          have hy := hr y (by simp [ho, Op.operands, Call.operands, hcal]; rw [← Array.mem_toList_iff, hl]; simp)
          rw [h1] at hx; rw [h2] at hy
          have hx := rdD hx; have hy := rdD hy
          generalize hvx : ρ x = vx at hx; generalize hvy : ρ y = vy at hy
          cases hx; cases hy
          have e1 : c.args.map ρ = #[.int k a, .int k b] := by apply Array.toList_inj.1; simp [hl, hvx, hvy]
          refine RSound.val hrel rfl (u := .int k (max a b)) (exec_call_builtin hcal ho (fun k => rfl) ?_) (.d _ _ (.int _ _))
          rw [e1]
          simp only [Builtin.max_, List.foldlM_cons, List.foldlM_nil, Builtin.max2, Sem.run_bind, Sem.run_pure, Result.andThen_ok]
          congr 2
          rw [Int.max_def]; split <;> split <;> omega
        · exact hob.elim
      · exact hob.elim
    · rename_i hcal
      try simp only [hcal]
      split at hob
      · rename_i k a k' b hab
        split at hob
        · rename_i hk
          subst hk
          simp only [if_true]
          have hargs : ∃ x y, c.args.toList = [x, y] ∧ ρT x = .d (.int k a) ∧ ρT y = .d (.int k b) := by
            match hl : c.args.toList, hab with
            | [x, y], hab => simp at hab; exact ⟨x, y, rfl, hab.1, hab.2⟩
            | [], hab => simp at hab
            | [x], hab => simp at hab
            | x :: y :: z :: r, hab => simp at hab
          obtain ⟨x, y, hl, h1, h2⟩ := hargs
          have hx := hr x (by simp [ho, Op.operands, Call.operands, hcal]; rw [← Array.mem_toList_iff, hl]; simp)
          have hy := hr y (by simp [ho, Op.operands, Call.operands, hcal]; rw [← Array.mem_toList_iff, hl]; simp)
          rw [h1] at hx; rw [h2] at hy
          have hx := rdD hx; have hy := rdD hy
          generalize hvx : ρ x = vx at hx; generalize hvy : ρ y = vy at hy
          cases hx; cases hy
          have e1 : c.args.map ρ = #[.int k a, .int k b] := by apply Array.toList_inj.1; simp [hl, hvx, hvy]
          refine RSound.val hrel rfl (u := .int k (min a b)) (exec_call_builtin hcal ho (fun k => rfl) ?_) (.d _ _ (.int _ _))
          rw [e1]
          simp only [Builtin.min_, List.foldlM_cons, List.foldlM_nil, Builtin.min2, Sem.run_bind, Sem.run_pure, Result.andThen_ok]
          congr 2
          rw [Int.min_def]; split <;> split <;> omega
        · exact hob.elim
      · exact hob.elim
    · exact hob.elim
  · -- makeMap
    rename_i t ho
    exact fun h1 h2 => makeMap_ok (L := L) (h1 ▸ hrel) ho h1 h2
  · -- mapUpdate
    rename_i t mm k x ho
    exact put_sound hV.E hrel (.inl ho) hr hob
  · -- insert
    rename_i t mm k x ho
    exact put_sound hV.E hrel (.inr ho) hr hob
  · -- lookup
    rename_i t x k ok ho
    obtain ⟨h1, u, h2, h3⟩ := look_ok (ok := ok) hV.E hrel hc (hr x (by simp [ho, Op.operands])) (hr k (by simp [ho, Op.operands])) hob
    exact RSound.val hrel h1 (by unfold execOp; simp [ho, h2]) h3
  · -- index
    rename_i t x i ho
    obtain ⟨h1, u, h2, h3⟩ := indexS_ok (P := P) (w := w) hV.E (hr x (by simp [ho, Op.operands])) (hr i (by simp [ho, Op.operands])) hob
    exact RSound.val hrel h1 (by unfold execOp; simp [ho, h2]) h3
  · -- convert
    rename_i src t x ho
    obtain ⟨h1, u, w', J, h2, h3, h4, h5⟩ := conv_ok hV.E hrel (hr x (by simp [ho, Op.operands])) hob
    unfold RSound
    rw [h1]
    have hex : (execOp ρ o).run P w = .ok (.value u) w' := by unfold execOp; simp [ho, h2]
    simp only [hex, StepOk]
    exact ⟨J, h3, h4, h5⟩
  · -- range
    rename_i t x ho
    exact range_ok hV.E hrel ho (hr x (by simp [ho, Op.operands])) hob
  · -- entry
    rename_i x ho
    exact entry_ok hrel hc ho (hr x (by simp [ho, Op.operands])) hob
  · exact hob.elim

end
end Go.Eva

/-
  Eva, part N: regions in order.
-/
namespace Go.Eva
open Go Go.RowKit
variable [Drw]

abbrev PC := List (Nat × Bool × Bool)

def subL (pc' pc : PC) : Bool := pc'.all fun x => pc.any fun y => x.1 == y.1 && x.2.2 == y.2.2
def subP : PC → PC → Prop
  | [], _ => True
  | x :: r, pc => (match pc.find? (fun y => x.1 == y.1 && x.2.2 == y.2.2) with | some y => x.2.1 = y.2.1 | none => False) ∧ subP r pc
def strip (pc : PC) (t : T) : T × Prop :=
  match t with
  | .cond pc' u => if subL pc' pc = true then (u, subP pc' pc) else (t, True)
  | t => (t, True)

theorem holds_mem : ∀ {pc : PC}, holds pc → ∀ y ∈ pc, y.2.1 = y.2.2
  | [], _, y, hy => by cases hy
  | (_, c, b) :: r, h, y, hy => by
    rcases List.mem_cons.1 hy with rfl | hy
    · exact h.1
    · exact holds_mem h.2 y hy
theorem subP_holds : ∀ {pc' pc : PC}, subP pc' pc → holds pc → holds pc'
  | [], _, _, _ => trivial
  | (j, c, b) :: r, pc, h, hp => by
    obtain ⟨h1, h2⟩ := h
    refine ⟨?_, subP_holds h2 hp⟩
    split at h1
    · rename_i y hy
      have h3 := List.find?_some hy
      simp only [Bool.and_eq_true, beq_iff_eq] at h3
      have := holds_mem hp y (List.mem_of_find?_eq_some hy)
      simp only at h1
      rw [h1, this, ← h3.2]
    · exact h1.elim
theorem holds_append : ∀ {a b : PC}, holds (a ++ b) ↔ holds a ∧ holds b
  | [], b => by simp [holds]
  | (_, c, d) :: r, b => by simp only [List.cons_append, holds, holds_append (a := r), and_assoc]

def guardPc (ops : List Oper) (s : Tm) : Option (Nat × Bool) → Option PC
  | none => some []
  | some (j, b) => match (ops[j]?).bind (·.dst) with
    | some d => match get s d with
      | .d (.bool c) => some [(j, c, b)]
      | .cond pc (.d (.bool c)) => some (pc ++ [(j, c, b)])
      | .cond [(0, true, false)] .undef => some [(0, true, false)]
      | _ => none
    | none => none

def obAll : List Prop → Prop
  | [] => True
  | p :: r => p ∧ obAll r
theorem obAll_mem : ∀ {l : List Prop}, obAll l → ∀ p ∈ l, p
  | [], _, p, hp => by cases hp
  | q :: r, h, p, hp => by
    rcases List.mem_cons.1 hp with rfl | hp
    · exact h.1
    · exact obAll_mem h.2 p hp

def dstOk (n : Nat) : Option Nat → Bool
  | none => true
  | some d => decide (d < n)

def after (s : St) (dst : Option Nat) (pc : PC) (r : R) : Option St :=
  match pc, r.eff with
  | [], .none => some ⟨putT s.t dst r.t, s.l⟩
  | [], .new a => some ⟨putT s.t dst r.t, s.l ++ [a]⟩
  | [], .upd l' => some ⟨putT s.t dst r.t, l'⟩
  | pc, .none => some ⟨putT s.t dst (.cond pc r.t), s.l⟩
  | _, _ => none

def opRes (V : Env) (pc : PC) (s : St) (o : Oper) : R :=
  match pc with
  | [] => evalOp V (evT s.t) s.l s.l.length o
  | _ :: _ =>
    let ρ := fun x => strip pc (evT s.t x)
    let r := evalOp V (fun x => (ρ x).1) s.l s.l.length o
    ⟨r.t, r.eff, r.ob ∧ obAll (o.op.operands.toList.map fun x => (ρ x).2)⟩
/-- What the step's operands are. -/
def stepT (pc : PC) (s : Tm) (x : Operand) : T := match pc with | [] => evT s x | _ :: _ => (strip pc (evT s x)).1

/-- What an operation that does not run leaves. -/
def gone : T := .cond [(0, true, false)] .undef
theorem gone_rd {I : Imm} {m : Nat → Value} {l : List AO} : RdT I m l Go.undef gone := .cond _ _ _ (fun h => by simp [holds] at h) (fun _ => rfl)
/-- One way through a region: the slots of the operations that do not run ('none': all ways at once). -/
abbrev Way := Option (List Nat)
def skips (sk : List Nat) (dst : Option Nat) : Bool := match dst with | some d => sk.contains d | none => false

def evalSeq (V : Env) (n : Nat) (ops : List Oper) (md : Way) : List Oper → St → (St → Prop) → Prop
  | [], s, K => K s
  | o :: r, s, K =>
    match guardPc ops s.t o.guard with
    | none => False
    | some pc =>
      match md with
      | none =>
        (match opRes V pc s o with
        | ⟨t, eff, ob⟩ => (holds pc → ob) ∧ dstOk n o.dst = true ∧ match after s o.dst pc ⟨t, eff, True⟩ with | some s' => evalSeq V n ops md r s' K | none => False)
      | some sk =>
        if skips sk o.dst = true then (holds pc → False) ∧ dstOk n o.dst = true ∧ evalSeq V n ops md r ⟨putT s.t o.dst gone, s.l⟩ K
        else holds pc ∧ (match opRes V [] s o with
        | ⟨t, eff, ob⟩ => ob ∧ dstOk n o.dst = true ∧ match after s o.dst [] ⟨t, eff, True⟩ with | some s' => evalSeq V n ops md r s' K | none => False)

theorem evalSeq_mono {V : Env} {n : Nat} {ops : List Oper} {md : Way} {K K' : St → Prop} (hk : ∀ s, K s → K' s) : ∀ (r : List Oper) (s : St), evalSeq V n ops md r s K → evalSeq V n ops md r s K'
  | [], s, h => hk s h
  | o :: r, s, h => by
    simp only [evalSeq] at h ⊢
    split at h
    · exact h
    · cases md with
      | none =>
        obtain ⟨h1, h2, h3⟩ := h
        refine ⟨h1, h2, ?_⟩
        split at h3
        · exact evalSeq_mono hk r _ h3
        · exact h3
      | some sk =>
        simp only at h ⊢
        split at h
        · rename_i hsk
          rw [if_pos hsk]
          exact ⟨h.1, h.2.1, evalSeq_mono hk r _ h.2.2⟩
        · rename_i hsk
          rw [if_neg hsk]
          obtain ⟨h0, h1, h2, h3⟩ := h
          refine ⟨h0, h1, h2, ?_⟩
          split at h3
          · exact evalSeq_mono hk r _ h3
          · exact h3

structure Rel (w0 : World) (I0 : Imm) (n : Nat) (s : St) (a : Act) (w : World) : Prop where
  size : a.tmps.size = n
  defers : a.defers = []
  rel : ∃ I m, WRel w0 I0 w I m s.l ∧ ∀ k, RdT I m s.l (a.tmps.getD k undef) (get s.t k)

section
variable {P : Program} {V : Env} {w0 w : World} {I0 I : Imm} {m : Nat → Value} {l L : List AO} {n : Nat}

theorem constT_ok (v : Value) : RdT I m L v (constT v) := by
  unfold constT
  split
  · exact .d _ _ (.bool _)
  · exact .d _ _ (.int _ _)
  · exact .d _ _ (.str _)
  · exact .nils _
  · exact .d _ _ .nilp
  · exact .d _ _ .map0
  · exact .d _ _ .nilfn
  · exact .d _ _ .nilif
  · exact .undef _

theorem evT_ok {s : Tm} {a : Act} (h : ∀ k, RdT I m L (a.tmps.getD k undef) (get s k)) (x : Operand) : RdT I m L (a.eval x) (evT s x) := by
  cases x with
  | tmp t => exact h t
  | const v => exact constT_ok v
  | global g => exact .undef _
  | func f => exact .d _ _ (.fn f)

theorem strip_ok {pc : PC} {v : Value} {t : T} (h : RdT I m L v t) (hp : holds pc) (hob : (strip pc t).2) : RdT I m L v (strip pc t).1 := by
  unfold strip at hob ⊢
  split at hob
  · rename_i pc' u
    split at hob
    · rename_i hs
      simp only [if_pos hs]
      exact rdCond h (subP_holds hob hp)
    · rename_i hs
      simp only [if_neg hs]
      exact h
  · exact h

theorem get_put (s : Tm) (d : Nat) (t : T) (k : Nat) : get ((d, t) :: s) k = if d = k then t else get s k := rfl

theorem putT_ok {s : Tm} {a : Act} {dst : Option Nat} {v : Value} {t : T} (hsz : a.tmps.size = n) (hd : dstOk n dst = true) (h : ∀ k, RdT I m L (a.tmps.getD k undef) (get s k)) (hv : RdT I m L v t) :
    ∀ k, RdT I m L ((a.put dst v).tmps.getD k undef) (get (putT s dst t) k) := by
  intro k
  cases dst with
  | none => exact h k
  | some d =>
    simp only [dstOk, decide_eq_true_eq] at hd
    simp only [putT, get_put, Act.put]
    by_cases hk : d = k
    · subst hk
      rw [if_pos rfl]
      have : (a.tmps.setIfInBounds d v).getD d undef = v := by simp [Array.getD_eq_getD_getElem?, hsz, hd]
      rw [this]; exact hv
    · rw [if_neg hk]
      have : (a.tmps.setIfInBounds d v).getD k undef = a.tmps.getD k undef := by simp [Array.getD_eq_getD_getElem?, hk]
      rw [this]; exact h k

/-- Is the operation wanted: its path condition holds. -/
theorem wanted_ok' {ops : List Oper} {s : Tm} {a : Act} {o : Oper} {pc : PC} (h : ∀ j b d, o.guard = some (j, b) → (ops[j]?).bind (·.dst) = some d → RdT I m L (a.tmps.getD d undef) (get s d)) (hg : guardPc ops s o.guard = some pc) : Region.wanted o (yielded ops.toArray a.tmps) = true ↔ holds pc := by
  cases hgd : o.guard with
  | none => rw [hgd] at hg; simp [guardPc] at hg; subst hg; simp [Region.wanted, hgd, holds]
  | some jb =>
    obtain ⟨j, b⟩ := jb
    rw [hgd] at hg
    simp only [guardPc] at hg
    split at hg
    · rename_i d hd
      have hy : yielded ops.toArray a.tmps j = match a.tmps[d]? with | some (.bool c) => some c | _ => none := by
        unfold yielded
        have : ((ops.toArray[j]?).bind (·.dst)) = some d := by simpa using hd
        rw [this]; rfl
      have hgetD : ∀ v, a.tmps.getD d undef = v → v ≠ undef → a.tmps[d]? = some v := by
        intro v hv hne
        rw [Array.getD_eq_getD_getElem?] at hv
        cases hx : a.tmps[d]? with
        | none => rw [hx] at hv; exact absurd hv.symm hne
        | some u => rw [hx] at hv; simp at hv; rw [hv]
      have hk := h j b d hgd hd
      simp only [Region.wanted, hgd, hy, beq_iff_eq]
      split at hg
      · rename_i c hc
        simp at hg; subst hg
        rw [hc] at hk
        have := rdD hk
        generalize hv : a.tmps.getD d undef = v at this
        cases this
        rw [hgetD _ hv (by unfold undef; simp)]
        simp [holds]
      · rename_i pc' c hc
        simp at hg; subst hg
        rw [hc] at hk
        generalize hv : a.tmps.getD d undef = v at hk
        cases hk with
        | cond _ _ _ h1 h2 =>
          rw [holds_append]
          by_cases hp : holds pc'
          · have := rdD (h1 hp)
            cases this
            rw [hgetD _ hv (by unfold undef; simp)]
            simp [holds, hp]
          · have hvu := h2 hp
            subst hvu
            constructor
            · intro hh
              exfalso
              split at hh
              · rename_i c' hc'
                rw [Array.getD_eq_getD_getElem?, hc'] at hv
                simp [undef] at hv
              · cases hh
            · rintro ⟨h, _⟩; exact absurd h hp
      · rename_i hc
        simp at hg; subst hg
        rw [hc] at hk
        generalize hv : a.tmps.getD d undef = v at hk
        cases hk with
        | cond _ _ _ h1 h2 =>
          have hvu := h2 (by simp [holds])
          subst hvu
          constructor
          · intro hh
            exfalso
            split at hh
            · rename_i c' hc'
              rw [Array.getD_eq_getD_getElem?, hc'] at hv
              simp [undef] at hv
            · cases hh
          · intro hh; simp [holds] at hh
      · cases hg
    · cases hg

theorem wanted_ok {ops : List Oper} {s : Tm} {a : Act} {o : Oper} {pc : PC} (h : ∀ k, RdT I m L (a.tmps.getD k undef) (get s k)) (hg : guardPc ops s o.guard = some pc) : Region.wanted o (yielded ops.toArray a.tmps) = true ↔ holds pc :=
  wanted_ok' (fun _ _ d _ _ => h d) hg

/-- One operation that runs or does not, by its path condition. -/
theorem opStep (hV : VOk P V) {ops : List Oper} {Q : Exit → Act → World → Prop} {o : Oper} {pc qc : PC} {s s' : St} {a : Act} {w : World} (hrel : Rel w0 I0 n s a w) (hg : guardPc ops s.t o.guard = some qc) (hq : holds qc ↔ holds pc) (hob : holds pc → (opRes V pc s o).ob) (hdst : dstOk n o.dst = true) {t : T} {eff : Eff} (hR : (opRes V pc s o).t = t ∧ (opRes V pc s o).eff = eff) (hs' : after s o.dst pc ⟨t, eff, True⟩ = some s') {Kn : Act → World → Prop}
    (hK : ∀ a' w', Rel w0 I0 n s' a' w' → Kn a' w') :
    if Region.wanted o (yielded ops.toArray a.tmps) = true then o.wp P a w Kn Q ∨ (o.asks P a w ∧ LetsOut Q) else Kn (a.put o.dst undef) w := by
    obtain ⟨hsz, hdf, I, m, hw, ht⟩ := hrel
    obtain ⟨rfl, rfl⟩ := hR
    have hwant := (wanted_ok ht hg).trans hq
    by_cases hp : holds pc
    · rw [if_pos (hwant.2 hp)]
      refine .inl ?_
      have hob := hob hp
      have hops : ∀ x ∈ o.op.operands, RdT I m s.l (a.eval x) (stepT pc s.t x) := fun x hx => by
        cases pc with
        | nil => exact evT_ok ht x
        | cons y pc => exact strip_ok (evT_ok ht x) hp (obAll_mem hob.2 _ (List.mem_map.2 ⟨x, by simpa using hx, rfl⟩))
      have hres : (opRes V pc s o).t = (evalOp V (stepT pc s.t) s.l s.l.length o).t ∧ (opRes V pc s o).eff = (evalOp V (stepT pc s.t) s.l s.l.length o).eff ∧ ((opRes V pc s o).ob → (evalOp V (stepT pc s.t) s.l s.l.length o).ob) := by
        cases pc with
        | nil => exact ⟨rfl, rfl, id⟩
        | cons y pc => exact ⟨rfl, rfl, fun h => h.1⟩
      obtain ⟨hr1, hr2, hr3⟩ := hres
      have hob1 := hr3 hob
      clear hob hr3
      have hobx := hob1
      clear hob1
      rw [hr1, hr2] at hs'
      clear hr1 hr2
      generalize hr : evalOp V (stepT pc s.t) s.l s.l.length o = res at *
      cases heff : res.eff with
      | none =>
        have hs := evalOp_sound (nid := s.l.length) hV hw (Com.refl _) hops (by rw [hr]; exact hobx)
        rw [hr] at hs
        unfold RSound at hs
        rw [heff] at hs
        refine StepOk.wp (hs.mono fun v w' ⟨J, hle, hw', hv⟩ => ?_)
        have hs'' : s' = ⟨putT s.t o.dst (if pc = [] then res.t else .cond pc res.t), s.l⟩ := by
          unfold after at hs'
          simp only [heff] at hs'
          cases pc <;> simp at hs' <;> simp [← hs']
        subst hs''
        refine hK _ _ ⟨by cases o.dst <;> simp [Act.put, hsz], by cases o.dst <;> simp [Act.put, hdf], J, m, hw', putT_ok hsz hdst (fun k => (ht k).mono hle) ?_⟩
        split
        · exact hv
        · exact .cond _ _ _ (fun _ => hv) (fun hn => absurd hp hn)
      | new x =>
        have hpc : pc = [] := by
          unfold after at hs'; simp only [heff] at hs'
          cases pc <;> simp at hs'; rfl
        subst hpc
        have hs'' : s' = ⟨putT s.t o.dst res.t, s.l ++ [x]⟩ := by
          unfold after at hs'; simp only [heff] at hs'; simp at hs'; exact hs'.symm
        subst hs''
        obtain ⟨hw2, hle2⟩ := hw.push
        have hs := evalOp_sound (nid := s.l.length) hV hw2 (L := s.l ++ [.dead]) (fun id hid => List.getElem?_append_left hid) (fun x hx => (hops x hx).mono hle2) (by rw [hr]; exact hobx)
        rw [hr] at hs
        unfold RSound at hs
        rw [heff] at hs
        refine StepOk.wp ((hs (by simp)).mono fun v w' ⟨m', hle, hw', hv⟩ => ?_)
        have hset : (s.l ++ [AO.dead]).set s.l.length x = s.l ++ [x] := by simp
        rw [hset] at hle hw' hv
        exact hK _ _ ⟨by cases o.dst <;> simp [Act.put, hsz], by cases o.dst <;> simp [Act.put, hdf], I, m', hw', putT_ok hsz hdst (fun k => (ht k).mono (hle2.trans hle)) hv⟩
      | upd l' =>
        have hpc : pc = [] := by
          unfold after at hs'; simp only [heff] at hs'
          cases pc <;> simp at hs'; rfl
        subst hpc
        have hs'' : s' = ⟨putT s.t o.dst res.t, l'⟩ := by
          unfold after at hs'; simp only [heff] at hs'; simp at hs'; exact hs'.symm
        subst hs''
        have hs := evalOp_sound (nid := s.l.length) hV hw (Com.refl _) hops (by rw [hr]; exact hobx)
        rw [hr] at hs
        unfold RSound at hs
        rw [heff] at hs
        refine StepOk.wp ((hs rfl rfl).mono fun v w' ⟨J, m', hle, hw', hv⟩ => ?_)
        exact hK _ _ ⟨by cases o.dst <;> simp [Act.put, hsz], by cases o.dst <;> simp [Act.put, hdf], J, m', hw', putT_ok hsz hdst (fun k => (ht k).mono hle) hv⟩
    · rw [if_neg (fun hh => hp (hwant.1 hh))]
      have hpc : pc ≠ [] := by rintro rfl; exact hp trivial
      have heff : (opRes V pc s o).eff = .none := by
        unfold after at hs'
        generalize (opRes V pc s o).eff = e at *
        cases pc with
        | nil => exact absurd rfl hpc
        | cons x pc => cases e <;> simp at hs' <;> rfl
      have hs'' : s' = ⟨putT s.t o.dst (.cond pc (opRes V pc s o).t), s.l⟩ := by
        unfold after at hs'
        simp only [heff] at hs'
        cases pc with
        | nil => exact absurd rfl hpc
        | cons x pc => simp at hs'; exact hs'.symm
      subst hs''
      exact hK _ _ ⟨by cases o.dst <;> simp [Act.put, hsz], by cases o.dst <;> simp [Act.put, hdf], I, m, hw, putT_ok hsz hdst ht (.cond _ _ _ (fun h => absurd h hp) (fun _ => rfl))⟩

/-- One operation, and what stands behind it. -/
theorem evalSeq_step (hV : VOk P V) {ops : List Oper} {md : Way} {Q : Exit → Act → World → Prop} {K : St → Prop} {o : Oper} {r : List Oper} {s : St} {a : Act} {w : World} (hrel : Rel w0 I0 n s a w) (h : evalSeq V n ops md (o :: r) s K) {Kn : Act → World → Prop}
    (hK : ∀ s' a' w', evalSeq V n ops md r s' K → Rel w0 I0 n s' a' w' → Kn a' w') :
    if Region.wanted o (yielded ops.toArray a.tmps) = true then o.wp P a w Kn Q ∨ (o.asks P a w ∧ LetsOut Q) else Kn (a.put o.dst undef) w := by
    simp only [evalSeq] at h
    split at h
    · exact h.elim
    · rename_i qc hg
      cases md with
      | none =>
        simp only at h
        obtain ⟨hob, hdst, h⟩ := h
        split at h
        · rename_i s' hs'
          exact opStep hV hrel hg Iff.rfl hob hdst ⟨rfl, rfl⟩ hs' fun a' w' hr => hK s' a' w' h hr
        · exact h.elim
      | some sk =>
        simp only at h
        split at h
        · obtain ⟨hno, hdst, h⟩ := h
          obtain ⟨hsz, hdf, I, m, hw, ht⟩ := hrel
          rw [if_neg (fun hh => hno ((wanted_ok ht hg).1 hh))]
          exact hK _ _ _ h ⟨by cases o.dst <;> simp [Act.put, hsz], by cases o.dst <;> simp [Act.put, hdf], I, m, hw, putT_ok hsz hdst ht gone_rd⟩
        · obtain ⟨hyes, hob, hdst, h⟩ := h
          split at h
          · rename_i s' hs'
            exact opStep hV hrel hg (pc := []) ⟨fun _ => trivial, fun _ => hyes⟩ (fun _ => hob) hdst ⟨rfl, rfl⟩ hs' fun a' w' hr => hK s' a' w' h hr
          · exact h.elim

theorem evalSeq_ok (hV : VOk P V) {ops : List Oper} {md : Way} {Q : Exit → Act → World → Prop} {K : St → Prop} (hK : ∀ s a w, K s → Rel w0 I0 n s a w → Q .normal a w) : ∀ (r : List Oper) (s : St) (a : Act) (w : World), Rel w0 I0 n s a w → evalSeq V n ops md r s K → wpList P ops.toArray Q r a w
  | [], s, a, w, hrel, h => hK s a w h hrel
  | o :: r, s, a, w, hrel, h => by
    unfold wpList
    exact evalSeq_step hV hrel h fun s' a' w' h' hr' => evalSeq_ok hV hK r s' a' w' hr' h'

end
end Go.Eva
