/-
  What this law needs besides, part 1 of 1.
-/
import Derived.Test.YtjfkfkjkbgiciaaGreatDoorX9
set_option linter.all false
set_option linter.unnecessarySimpa false
set_option linter.deprecated false
set_option linter.unusedVariables false
set_option linter.unusedSimpArgs false
set_option linter.unusedSectionVars false
namespace Go.Proofs.YtjfkfkjkbgiciaaGreatDoor
open Go Go.Eva Enc
noncomputable def lawDesks_r1 (x14 : Int) (x18 : Int) : Option Bool :=
  (ifb (!decide (x14 = 0)) (some true) (some (!decide (x18 = 0))))
noncomputable def lawDesks_r2 (desks : (IntK .u8)) (x2 : Bool) (x13 : (List Int)) (x14 : Int) (x17 : (List Int)) (x18 : Int) : Option Bool :=
  (ifb x2 (ifb (decide (x14 = 0)) (ifb (decide (x18 = 6)) (ifb (decide ((1 + (Int.tmod (IntKind.wrap .i64 desks.n) 40)) < (x13.length : Int))) (some (decide ((x17.length : Int) = 0))) (some false)) (some false)) (some false)) (some false))
noncomputable def lawDesks_r11 (x17 : (List Int)) (z4u5 : Bool) (z4u67 : Int) (x98 : Int) : Option Bool :=
  (ifb z4u5 (ifb (decide (z4u67 = 0)) (some true) (grd (inI (z4u67 - 1)) (bnd (at? x17 (z4u67 - 1)) fun x102 =>
  some (decide (x102 ≤ x98))))) (some false))
noncomputable def lawDesks_j10 (z4u67 : Int) (y96u5 : Bool) (y96u11 : (List (Int × Int))) : Option ((Bool × (List (Int × Int)) × Int) ⊕ ((Bool × (List (Int × Int))))) :=
  grd (inI (z4u67 + 1)) (some (.inl (y96u5, y96u11, (z4u67 + 1))))
noncomputable def lawDesks_s9 (x17 : (List Int)) : (Bool × (List (Int × Int)) × Int) → Option ((Bool × (List (Int × Int)) × Int) ⊕ ((Bool × (List (Int × Int))))) := fun (z4u5, z4u11, z4u67) =>
  ifb (decide (z4u67 < (x17.length : Int))) (bnd (at? x17 z4u67) fun x98 =>
  bnd (lawDesks_r11 x17 z4u5 z4u67 x98) fun y104u5 =>
  grd (inI ((mgetD z4u11 x98 0) + 1)) (lawDesks_j10 z4u67 y104u5 (mput z4u11 x98 ((mgetD z4u11 x98 0) + 1))))
  (some (.inr (z4u5, z4u11)))
noncomputable def lawDesks_r12 (desks : (IntK .u8)) (x17 : (List Int)) (y42u5 : Bool) (y42u11 : (List (Int × Int))) : Option Bool :=
  (ifb y42u5 (ifb (decide ((x17.length : Int) = (1 + (Int.tmod (IntKind.wrap .i64 desks.n) 40)))) (some (decide ((mgetD y42u11 0 0) = (1 + (Int.tmod (IntKind.wrap .i64 desks.n) 40))))) (some false)) (some false))
noncomputable def lawDesks_r42 (y42u11 : (List (Int × Int))) (x296 : Int) (z35u5 : Bool) (x350 : Int) : Option Bool :=
  (ifb z35u5 (ifb (decide (0 < (mgetD y42u11 x296 0))) (grd (inI ((mgetD y42u11 x350 0) + 1)) (some (decide ((mgetD y42u11 x296 0) ≤ ((mgetD y42u11 x350 0) + 1))))) (some false)) (some false))
noncomputable def lawDesks_j41 (z35u115 : Int) (y348u5 : Bool) : Option ((Bool × Int) ⊕ ((Bool))) :=
  grd (inI (z35u115 + 1)) (some (.inl (y348u5, (z35u115 + 1))))
noncomputable def lawDesks_s40 (x13 : (List Int)) (y42u11 : (List (Int × Int))) (x296 : Int) : (Bool × Int) → Option ((Bool × Int) ⊕ ((Bool))) := fun (z35u5, z35u115) =>
  ifb (decide (z35u115 < (x13.length : Int))) (bnd (at? x13 z35u115) fun x350 =>
  bnd (lawDesks_r42 y42u11 x296 z35u5 x350) fun y354u5 =>
  lawDesks_j41 z35u115 y354u5)
  (some (.inr z35u5))
noncomputable def lawDesks_j34 (z14u109 : Int) (y294u5 : Bool) : Option ((Bool × Int) ⊕ ((Bool))) :=
  grd (inI (z14u109 + 1)) (some (.inl (y294u5, (z14u109 + 1))))
noncomputable def lawDesks_s33 (x13 : (List Int)) (y42u11 : (List (Int × Int))) : (Bool × Int) → Option ((Bool × Int) ⊕ ((Bool))) := fun (z14u5, z14u109) =>
  ifb (decide (z14u109 < (x13.length : Int))) (bnd (at? x13 z14u109) fun x296 =>
  bnd (loopO (lawDesks_s40 x13 y42u11 x296) (z14u5, 0)) fun q365u5 =>
  lawDesks_j34 z14u109 q365u5)
  (some (.inr z14u5))
noncomputable def lawDesks_r43 (desks : (IntK .u8)) (x13 : (List Int)) (x17 : (List Int)) (y42u11 : (List (Int × Int))) (y129u5 : Bool) : Option Bool :=
  (ifb y129u5 (ifb (decide ((x17.length : Int) = (1 + (Int.tmod (IntKind.wrap .i64 desks.n) 40)))) (ifb (decide ((y42u11.length : Int) = (x13.length : Int))) (some (decide ((x13.length : Int) ≤ (1 + (Int.tmod (IntKind.wrap .i64 desks.n) 40))))) (some false)) (some false)) (some false))
noncomputable def lawDesks_j13 (desks : (IntK .u8)) (x13 : (List Int)) (x17 : (List Int)) (y42u11 : (List (Int × Int))) (y129u5 : Bool) : Option Bool :=
  bnd (lawDesks_r43 desks x13 x17 y42u11 y129u5) fun y370u4 =>
  some y370u4
noncomputable def lawDesks_j3 (desks : (IntK .u8)) (x13 : (List Int)) (x17 : (List Int)) (y42u5 : Bool) (y42u11 : (List (Int × Int))) : Option Bool :=
  ifb (decide ((x13.length : Int) = 0)) (bnd (lawDesks_r12 desks x17 y42u5 y42u11) fun y121u4 =>
  some y121u4)
  (bnd (loopO (lawDesks_s33 x13 y42u11) (y42u5, 0)) fun q369u5 =>
  lawDesks_j13 desks x13 x17 y42u11 q369u5)
noncomputable def lawDesks (v : View) (desks : (IntK .u8)) : Option Bool :=
  bnd (headP) fun x2 =>
  bnd (usable v) fun x6 =>
  ifb (!x6) (some x2)
  (grd (inI (1 + (Int.tmod (IntKind.wrap .i64 desks.n) 40))) (bnd (pVoices v) fun (x13, x14) =>
  bnd (pAssign v (1 + (Int.tmod (IntKind.wrap .i64 desks.n) 40))) fun (x17, x18) =>
  bnd (lawDesks_r1 x14 x18) fun y22u43 =>
  ifb y22u43 (bnd (lawDesks_r2 desks x2 x13 x14 x17 x18) fun y29u4 =>
  some y29u4)
  (bnd (loopO (lawDesks_s9 x17) (x2, [], 0)) fun o87 =>
  match o87 with
  | (q117u5, q117u11) => lawDesks_j3 desks x13 x17 q117u5 q117u11)))
@[reducible] def onnPZPlA : Onn := ⟨False⟩
attribute [local instance] rndX onnPZPlA
theorem usable_eq {v : View} (hv : Sm v) : usable v = some (decide (few v ∧ viewOk v)) := by
  unfold usable usable_r1
  rw [r14Few_eq hv, bnd_pure]
  by_cases h : few v
  · rw [ifb_t' (by simp [h]), r18Valid_eq hv, bnd_pure, bnd_pure]; simp [h]
  · rw [ifb_f' (by simp [h]), bnd_pure]; simp [h]
theorem chosen_bad {c : List Int} (h : chosenOk c = true) {k : Nat} (hk : k < c.length) : chBad c k = false := by
  unfold chosenOk at h
  simp only [Bool.not_eq_true', List.any_eq_false] at h
  simpa using h k (by simpa using hk)
theorem chosen_pos {c : List Int} (h : chosenOk c = true) {n : Int} (hn : n ∈ c) : 1 ≤ n ∧ n ≤ 20 := by
  obtain ⟨k, hk, rfl⟩ := List.mem_iff_getElem.1 hn
  have := chosen_bad h hk
  unfold chBad at this
  rw [getD_of (List.getElem?_eq_getElem hk)] at this
  simp at this
  omega
theorem chosen_asc {c : List Int} (h : chosenOk c = true) : ∀ (j i : Nat) (hj : j < c.length) (hi : i < j), c[i]'(by omega) < c[j] := by
  intro j
  induction j with
  | zero => intro i hj hi; omega
  | succ j ih =>
    intro i hj hi
    have hb := chosen_bad h hj
    unfold chBad at hb
    have e : j + 1 - 1 = j := rfl
    rw [getD_of (List.getElem?_eq_getElem hj), e, getD_of (List.getElem?_eq_getElem (show j < c.length by omega))] at hb
    simp at hb
    have h1 : c[j] < c[j + 1] := hb.2.2
    by_cases hij : i = j
    · subst hij; exact h1
    · have := ih i (by omega) (by omega)
      omega
theorem played_none {c : List Int} {l : List Written} (h : ∀ n ∈ c, ¬ isIn l n = true) : played c l = 0 := by
  unfold played
  rw [List.find?_eq_none.2 h]; rfl
theorem played_some {c : List Int} (hc : chosenOk c = true) {l : List Written} {o : Int} (h : o ∈ c) (ho : isIn l o = true) : played c l ∈ c ∧ isIn l (played c l) = true ∧ ∀ r ∈ c, isIn l r = true → played c l ≤ r := by
  unfold played
  cases hf : c.find? (isIn l) with
  | none => exact absurd ho (List.find?_eq_none.1 hf o h)
  | some p =>
    obtain ⟨hp, i, hi, hpi, hlt⟩ := List.find?_eq_some_iff_getElem.1 hf
    refine ⟨hpi ▸ List.getElem_mem hi, hp, fun r hr hir => ?_⟩
    obtain ⟨j, hj, rfl⟩ := List.mem_iff_getElem.1 hr
    rw [Option.getD_some]
    by_cases hji : j < i
    · have := hlt j hji
      rw [hir] at this; cases this
    · by_cases hij : i = j
      · subst hij; omega
      · have := chosen_asc hc j i hj (by omega)
        omega
theorem played_filter {c : List Int} (hc : chosenOk c = true) (l : List Written) : played c (l.filter (ossP (played c l))) = played c l := by
  by_cases h : ∃ o ∈ c, isIn l o = true
  · obtain ⟨o, h1, h2⟩ := h
    obtain ⟨h3, h4, h5⟩ := played_some hc h1 h2
    generalize played c l = p at *
    have hin : isIn (l.filter (ossP p)) p = true := by
      unfold isIn at h4 ⊢
      obtain ⟨w, hw, hp⟩ := List.any_eq_true.1 h4
      exact List.any_eq_true.2 ⟨w, List.mem_filter.2 ⟨hw, hp⟩, hp⟩
    have huniq : ∀ r, isIn (l.filter (ossP p)) r = true → r = p := by
      intro r hr
      unfold isIn at hr
      obtain ⟨w, hw, hp⟩ := List.any_eq_true.1 hr
      have := (List.mem_filter.1 hw).2
      unfold ossP at this hp
      simp at this hp; omega
    exact huniq _ (played_some hc h3 hin).2.1
  · have h0 : ∀ n ∈ c, ¬ isIn l n = true := fun n hn hi => h ⟨n, hn, hi⟩
    rw [played_none h0]
    refine played_none fun n hn hi => ?_
    unfold isIn at hi
    obtain ⟨w, hw, hp⟩ := List.any_eq_true.1 hi
    refine h0 n hn ?_
    unfold isIn
    exact List.any_eq_true.2 ⟨w, (List.mem_filter.1 hw).1, hp⟩
theorem ossM_twice {c : List Int} (hc : chosenOk c = true) (m : Measure) : ossM c (ossM c m) = ossM c m := by
  unfold ossM cutM
  dsimp only
  rw [played_filter hc, List.filter_filter]
  simp
theorem ossV_twice {c : List Int} (hc : chosenOk c = true) (v : View) : ossV c (ossV c v) = ossV c v := by
  unfold ossV
  simp only [List.map_map]
  congr 1
  exact List.map_congr_left fun m _ => ossM_twice hc m
theorem total_map (f : Measure → Measure) (hf : ∀ m, (f m).notes.length ≤ m.notes.length) (l : List Measure) : total (l.map f) ≤ total l := by
  induction l with
  | nil => simp [total]
  | cons m l ih =>
    rw [List.map_cons, total_cons, total_cons]
    have := hf m
    omega
theorem viewOk_cut {v : View} (hv : viewOk v) (f : Measure → Measure) (hf : ∀ m, ∀ w ∈ (f m).notes, w ∈ m.notes) (hl : ∀ m, (f m).notes.length ≤ m.notes.length) (p : Int) : viewOk ⟨p, v.measures.map f⟩ := by
  refine ⟨by simpa using hv.1, ?_, fun m hm w hw => ?_⟩
  · have := total_map f hl v.measures
    have := hv.2.1
    dsimp only; omega
  · obtain ⟨x, hx, rfl⟩ := List.mem_map.1 hm
    exact hv.2.2 x hx w (hf x w hw)
theorem viewOk_oss {v : View} (hv : viewOk v) (c : List Int) : viewOk (ossV c v) := viewOk_cut hv _ (fun m w hw => (List.mem_filter.1 hw).1) (fun m => List.length_filter_le _ _) _
theorem viewOk_desk {v : View} (hv : viewOk v) (n : Int) : viewOk (deskV n v) := viewOk_cut hv _ (fun m w hw => (List.mem_filter.1 hw).1) (fun m => List.length_filter_le _ _) _
def lo1 (c : List Int) (z : Int) (w : Written) : Int := c.foldl (fun z n => if w.ossia = n ∧ (z = 0 ∨ n < z) then n else z) z
theorem lo1_eq (w : Written) : ∀ (c : List Int) (z : Int), lo1 c z w = if w.ossia ∈ c then (if z = 0 ∨ w.ossia < z then w.ossia else z) else z
  | [], z => by simp [lo1]
  | n :: c, z => by
    have e : lo1 (n :: c) z w = lo1 c (if w.ossia = n ∧ (z = 0 ∨ n < z) then n else z) w := rfl
    rw [e, lo1_eq w c]
    by_cases h : w.ossia = n
    · subst h
      rw [if_pos (show w.ossia ∈ w.ossia :: c by simp)]
      by_cases h2 : z = 0 ∨ w.ossia < z
      · have et : (if w.ossia = w.ossia ∧ (z = 0 ∨ w.ossia < z) then w.ossia else z) = w.ossia := if_pos ⟨rfl, h2⟩
        rw [et, if_pos h2]
        split
        · split <;> rfl
        · rfl
      · have et : (if w.ossia = w.ossia ∧ (z = 0 ∨ w.ossia < z) then w.ossia else z) = z := if_neg (fun h => h2 h.2)
        rw [et, if_neg h2]
        simp [h2]
    · have h3 : w.ossia ∈ n :: c ↔ w.ossia ∈ c := by simp [h]
      have et : (if w.ossia = n ∧ (z = 0 ∨ n < z) then n else z) = z := if_neg (fun h' => h h'.1)
      rw [et]
      by_cases h4 : w.ossia ∈ c
      · rw [if_pos h4, if_pos (h3.2 h4)]
      · rw [if_neg h4, if_neg (fun h' => h4 (h3.1 h'))]
theorem lo_fold {c : List Int} (hc : ∀ n ∈ c, 1 ≤ n) : ∀ (l : List Written) (z : Int), 0 ≤ z → (l.foldl (lo1 c) z = z ∨ (l.foldl (lo1 c) z ∈ c ∧ isIn l (l.foldl (lo1 c) z) = true)) ∧ (∀ o ∈ c, isIn l o = true → l.foldl (lo1 c) z ≠ 0 ∧ l.foldl (lo1 c) z ≤ o) ∧ (z ≠ 0 → l.foldl (lo1 c) z ≠ 0 ∧ l.foldl (lo1 c) z ≤ z)
  | [], z, _ => by simp [isIn]
  | w :: l, z, hz => by
    rw [List.foldl_cons]
    have e := lo1_eq w c z
    have hz' : 0 ≤ lo1 c z w := by
      rw [e]; split
      · rename_i h
        have := hc _ h
        split <;> omega
      · exact hz
    obtain ⟨h1, h2, h3⟩ := lo_fold hc l (lo1 c z w) hz'
    have hin : ∀ o, isIn (w :: l) o = true ↔ w.ossia = o ∨ isIn l o = true := by
      intro o; unfold isIn ossP; simp
    generalize l.foldl (lo1 c) (lo1 c z w) = r at *
    by_cases hw : w.ossia ∈ c
    · have hp := hc _ hw
      rw [if_pos hw] at e
      by_cases h0 : z = 0 ∨ w.ossia < z
      · rw [if_pos h0] at e
        rw [e] at h1 h3
        have h3' := h3 (by omega)
        refine ⟨?_, fun o ho hio => ?_, fun hz0 => by omega⟩
        · rcases h1 with h1 | ⟨h1, h4⟩
          · right; rw [h1]; exact ⟨hw, (hin _).2 (.inl rfl)⟩
          · right; exact ⟨h1, (hin _).2 (.inr h4)⟩
        · rcases (hin o).1 hio with h | h
          · omega
          · exact h2 o ho h
      · rw [if_neg h0] at e
        rw [e] at h1 h3
        refine ⟨?_, fun o ho hio => ?_, fun hz0 => h3 hz0⟩
        · rcases h1 with h1 | ⟨h1, h4⟩
          · exact .inl h1
          · right; exact ⟨h1, (hin _).2 (.inr h4)⟩
        · rcases (hin o).1 hio with h | h
          · have := h3 (by omega); omega
          · exact h2 o ho h
    · rw [if_neg hw] at e
      rw [e] at h1 h3
      refine ⟨?_, fun o ho hio => ?_, fun hz0 => h3 hz0⟩
      · rcases h1 with h1 | ⟨h1, h4⟩
        · exact .inl h1
        · right; exact ⟨h1, (hin _).2 (.inr h4)⟩
      · rcases (hin o).1 hio with h | h
        · rw [h] at hw; exact absurd ho hw
        · exact h2 o ho h
theorem lo_played {c : List Int} (hc : chosenOk c = true) (l : List Written) : l.foldl (lo1 c) 0 = played c l := by
  obtain ⟨h1, h2, _⟩ := lo_fold (fun n hn => (chosen_pos hc hn).1) l 0 (by omega)
  by_cases h : ∃ o ∈ c, isIn l o = true
  · obtain ⟨o, g1, g2⟩ := h
    obtain ⟨g3, g4, g5⟩ := played_some hc g1 g2
    have g6 := h2 _ g3 g4
    rcases h1 with h1 | ⟨h1, h4⟩
    · omega
    · have := g5 _ h1 h4
      omega
  · rw [played_none fun n hn hi => h ⟨n, hn, hi⟩]
    rcases h1 with h1 | ⟨h1, h4⟩
    · exact h1
    · exact absurd ⟨_, h1, h4⟩ h
theorem filter_take {α : Type} (p : α → Bool) {l : List α} {k : Nat} {x : α} (hx : l[k]? = some x) : (l.take (k + 1)).filter p = if p x = true then (l.take k).filter p ++ [x] else (l.take k).filter p := by
  rw [List.take_succ, hx]
  simp only [Option.toList_some, List.filter_append]
  by_cases h : p x = true
  · simp [h]
  · simp [h]
theorem filter_at {α : Type} (p : α → Bool) {l : List α} {k : Nat} {x : α} (hx : l[k]? = some x) (hp : p x = true) : (l.filter p)[((l.take k).filter p).length]? = some x := by
  have h : l.filter p = (l.take k).filter p ++ (l.drop k).filter p := by rw [← List.filter_append, List.take_append_drop]
  have hk := lt_of_get hx
  have hx' : l[k] = x := by rw [List.getElem?_eq_getElem hk] at hx; exact Option.some.inj hx
  rw [h, List.getElem?_append_right (Nat.le_refl _), Nat.sub_self, List.drop_eq_getElem_cons hk, hx', List.filter_cons, if_pos hp]
  rfl
end Go.Proofs.YtjfkfkjkbgiciaaGreatDoor
namespace Go.Proofs.YtjfkfkjkbgiciaaGreatDoor
open Go Go.Eva Enc
@[reducible] def onnPZPlC : Onn := ⟨False⟩
attribute [local instance] rndX onnPZPlC
theorem mget_put {α : Type} (n : Int) (v : α) (k : Int) (z : α) : ∀ (m : List (Int × α)), mgetD (mput m n v) k z = if k = n then v else mgetD m k z
  | [] => by
    rw [mput_nil, mgetD_cons]
  | (a, b) :: m => by
    have ih := mget_put n v k z m
    rw [mput_cons]
    by_cases h : n = a
    · subst h
      rw [if_pos rfl, mgetD_cons, mgetD_cons]
      by_cases hk : k = n
      · simp [hk]
      · simp [hk]
    · rw [if_neg h, mgetD_cons, mgetD_cons, ih]
      by_cases hk : k = a
      · subst hk
        have : ¬ k = n := fun e => h e.symm
        simp [this]
      · simp [hk]
def cnt1 (m : List (Int × Int)) (a : Int) : List (Int × Int) := mput m a (mgetD m a 0 + 1)
def cntM (l : List Int) : List (Int × Int) := l.foldl cnt1 []
theorem cnt_get0 (a : Int) : ∀ (l : List Int) (m : List (Int × Int)), mgetD (l.foldl cnt1 m) a 0 = mgetD m a 0 + (l.count a : Int)
  | [], m => by simp
  | b :: l, m => by
    rw [List.foldl_cons, cnt_get0 a l, List.count_cons]
    unfold cnt1
    rw [mget_put]
    by_cases h : a = b
    · subst h; simp; omega
    · have : ¬ (b == a) = true := by simpa using fun e => h e.symm
      simp [h, this]
theorem cnt_get (a : Int) (l : List Int) : mgetD (cntM l) a 0 = (l.count a : Int) := by
  unfold cntM
  rw [cnt_get0]
  have : mgetD ([] : List (Int × Int)) a 0 = 0 := rfl
  omega
theorem cnt_keys0 : ∀ (l : List Int) (m : List (Int × Int)), (mkeys m).Nodup → (mkeys (l.foldl cnt1 m)).Nodup ∧ ∀ k, k ∈ mkeys (l.foldl cnt1 m) ↔ k ∈ mkeys m ∨ k ∈ l
  | [], m, h => ⟨h, fun k => by simp⟩
  | b :: l, m, h => by
    obtain ⟨h1, h2⟩ := keys_mput b (mgetD m b 0 + 1) m h
    obtain ⟨h3, h4⟩ := cnt_keys0 l (cnt1 m b) h1
    rw [List.foldl_cons]
    refine ⟨h3, fun k => ?_⟩
    rw [h4 k, show cnt1 m b = mput m b (mgetD m b 0 + 1) from rfl, h2 k, List.mem_cons]
    constructor
    · rintro ((h | h) | h)
      · exact .inr (.inl h)
      · exact .inl h
      · exact .inr (.inr h)
    · rintro (h | h | h)
      · exact .inl (.inr h)
      · exact .inl (.inl h)
      · exact .inr h
theorem cntM_snoc (l : List Int) (a : Int) : cntM (l ++ [a]) = cnt1 (cntM l) a := by unfold cntM; rw [List.foldl_append]; rfl
def cntD (D L i : Nat) : Nat := ((List.range D).filter fun k => decide (k * L / D = i)).length
theorem cntD_all : ∀ D ∈ List.range 41, ∀ L ∈ List.range 10, 1 ≤ L → L ≤ D → ∀ i ∈ List.range L, D / L ≤ cntD D L i ∧ cntD D L i ≤ D / L + 1 := by decide +kernel
theorem cntD_eq {D L i : Nat} (hD : D ≤ 40) (hL : L ≤ 9) (h1 : 1 ≤ L) (h2 : L ≤ D) (hi : i < L) : 1 ≤ cntD D L i ∧ D / L ≤ cntD D L i ∧ cntD D L i ≤ D / L + 1 := by
  obtain ⟨h3, h4⟩ := cntD_all D (List.mem_range.2 (by omega)) L (List.mem_range.2 (by omega)) h1 h2 i (List.mem_range.2 hi)
  have : 1 ≤ D / L := (Nat.one_le_div_iff (by omega)).2 h2
  omega
theorem vList_asc (v : View) : (vList v).Pairwise (· < ·) := List.Pairwise.sublist List.filter_sublist (by decide)
theorem asg_get {x : List Int} {N k : Nat} (hk : k < N) (hx : 0 < x.length) : ∃ h : k * x.length / N < x.length, asg x N k = x[k * x.length / N] := by
  have hlt : k * x.length / N < x.length := by
    rw [Nat.div_lt_iff_lt_mul (by omega), Nat.mul_comm]
    exact Nat.mul_lt_mul_of_pos_left hk hx
  refine ⟨hlt, ?_⟩
  unfold asg
  rw [if_pos hx, List.getD_eq_getElem?_getD, List.getElem?_eq_getElem hlt]
  rfl
theorem asg_mono {x : List Int} (ha : x.Pairwise (· < ·)) {N k : Nat} (hk : k + 1 < N) : asg x N k ≤ asg x N (k + 1) := by
  by_cases hx : 0 < x.length
  · obtain ⟨h1, e1⟩ := asg_get (x := x) (show k < N by omega) hx
    obtain ⟨h2, e2⟩ := asg_get (x := x) hk hx
    rw [e1, e2]
    have hle : k * x.length / N ≤ (k + 1) * x.length / N := Nat.div_le_div_right (Nat.mul_le_mul_right _ (by omega))
    generalize k * x.length / N = i at *
    generalize (k + 1) * x.length / N = j at *
    by_cases hij : i = j
    · subst hij; omega
    · have := List.pairwise_iff_getElem.1 ha i j h1 h2 (by omega)
      omega
  · simp [asg, hx]
theorem asg_count {x : List Int} (ha : x.Pairwise (· < ·)) {N i : Nat} (hi : i < x.length) : (asgL x N).count x[i] = cntD N x.length i := by
  unfold asgL cntD
  rw [List.count, List.countP_map, List.countP_eq_length_filter]
  congr 1
  refine List.filter_congr fun k hk => ?_
  rw [List.mem_range] at hk
  obtain ⟨h1, e1⟩ := asg_get (x := x) hk (by omega)
  simp only [Function.comp_apply]
  rw [e1]
  generalize k * x.length / N = j at *
  rw [Bool.eq_iff_iff]
  simp only [beq_iff_eq, decide_eq_true_eq]
  constructor
  · intro h
    refine Classical.byContradiction fun hn => ?_
    by_cases hlt : j < i
    · have := List.pairwise_iff_getElem.1 ha j i h1 hi hlt
      omega
    · have := List.pairwise_iff_getElem.1 ha i j hi h1 (by omega)
      omega
  · rintro rfl; rfl
theorem asg_cnt {x : List Int} (ha : x.Pairwise (· < ·)) {N : Nat} (hN : N ≤ 40) (h9 : x.length ≤ 9) (hle : x.length ≤ N) {a : Int} (h : a ∈ x) : 1 ≤ (asgL x N).count a ∧ N / x.length ≤ (asgL x N).count a ∧ (asgL x N).count a ≤ N / x.length + 1 := by
  obtain ⟨i, hi, rfl⟩ := List.mem_iff_getElem.1 h
  rw [asg_count ha hi]
  exact cntD_eq hN h9 (by omega) hle hi
theorem asgL_mem {x : List Int} {N : Nat} (hx : 0 < x.length) {a : Int} (h : a ∈ asgL x N) : a ∈ x := by
  unfold asgL at h
  obtain ⟨k, hk, rfl⟩ := List.mem_map.1 h
  rw [List.mem_range] at hk
  obtain ⟨h1, e1⟩ := asg_get (x := x) hk hx
  rw [e1]; exact List.getElem_mem h1
theorem cntM_len {x : List Int} (ha : x.Pairwise (· < ·)) {N : Nat} (hN : N ≤ 40) (h9 : x.length ≤ 9) (hle : x.length ≤ N) (hx : 0 < x.length) : (cntM (asgL x N)).length = x.length := by
  obtain ⟨h1, h2⟩ := cnt_keys0 (asgL x N) [] (by simp [mkeys])
  have hnd : x.Nodup := ha.imp fun h => by omega
  have : (mkeys (cntM (asgL x N))).Perm x := perm_of_mem h1 hnd fun k => by
    unfold cntM
    rw [h2 k]
    constructor
    · rintro (h | h)
      · cases h
      · exact asgL_mem hx h
    · intro h
      right
      have := (asg_cnt ha hN h9 hle h).1
      exact List.count_pos_iff.1 (by omega)
  have := this.length_eq
  simpa [mkeys] using this
theorem desk_rng {n : Int} (h0 : 0 ≤ n) (h1 : n ≤ 255) : ∃ N : Nat, 1 + Int.tmod (IntKind.wrap .i64 n) 40 = (N : Int) ∧ 1 ≤ N ∧ N ≤ 40 := by
  have e : IntKind.wrap .i64 n = n := by simp [IntKind.wrap, IntKind.bits, IntKind.signed]; omega
  rw [e]
  have h2 : Int.tmod n 40 = n % 40 := Int.tmod_eq_emod_of_nonneg h0
  rw [h2]
  refine ⟨(1 + n % 40).toNat, by omega, by omega, by omega⟩
end Go.Proofs.YtjfkfkjkbgiciaaGreatDoor
namespace Go.Proofs.YtjfkfkjkbgiciaaGreatDoor
open Go Go.Eva Enc
noncomputable def lawTogether_r1 (v : View) (x11 : View) (x12 : Int) : Option Bool :=
  (ifb (!decide (x12 = 0)) (some true) (bnd (r14Same x11 v) fun x16 =>
  some (!x16)))
noncomputable def lawTogether_r2 (x2 : Bool) (x28 : Int) : Option Bool :=
  (ifb x2 (some (decide (x28 = 6))) (some false))
noncomputable def lawTogether_r119 (v : View) (x887 : View) (x888 : Int) : Option Bool :=
  (ifb (!decide (x888 = 0)) (some true) (some (!decide ((x887.measures.length : Int) = (v.measures.length : Int)))))
noncomputable def lawTogether_r170 (x1168 : Measure) (z159u17 : Int) (x1253 : Written) : Option Bool :=
  (ifb (decide (z159u17 < (x1168.notes.length : Int))) (bnd (at? x1168.notes z159u17) fun x1256 =>
  some (decide (x1256 = x1253))) (some false))
noncomputable def lawTogether_r172 (x884 : Int) (z159u5 : Bool) (x1253 : Written) (y1258u20 : Bool) : Option Bool :=
  (ifb z159u5 (ifb (decide (x1253.voice = 0)) (some (y1258u20 == true)) (some (y1258u20 == (decide (x1253.voice = x884))))) (some false))
noncomputable def lawTogether_j169 (z159u97 : Int) (y1251u5 : Bool) (y1251u17 : Int) : Option ((Bool × Int × Int) ⊕ ((Bool × Int))) :=
  grd (inI (z159u97 + 1)) (some (.inl (y1251u5, y1251u17, (z159u97 + 1))))
noncomputable def lawTogether_j171 (x884 : Int) (z159u5 : Bool) (z159u97 : Int) (x1253 : Written) (y1258u20 : Bool) (y1264u17 : Int) : Option ((Bool × Int × Int) ⊕ ((Bool × Int))) :=
  bnd (lawTogether_r172 x884 z159u5 x1253 y1258u20) fun y1270u5 =>
  lawTogether_j169 z159u97 y1270u5 y1264u17
noncomputable def lawTogether_s168 (x884 : Int) (x1168 : Measure) (x1174 : Measure) : (Bool × Int × Int) → Option ((Bool × Int × Int) ⊕ ((Bool × Int))) := fun (z159u5, z159u17, z159u97) =>
  ifb (decide (z159u97 < (x1174.notes.length : Int))) (bnd (at? x1174.notes z159u97) fun x1253 =>
  bnd (lawTogether_r170 x1168 z159u17 x1253) fun y1258u20 =>
  ifb y1258u20 (grd (inI (z159u17 + 1)) (lawTogether_j171 x884 z159u5 z159u97 x1253 y1258u20 (z159u17 + 1)))
  (lawTogether_j171 x884 z159u5 z159u97 x1253 y1258u20 z159u17))
  (some (.inr (z159u5, z159u17)))
noncomputable def lawTogether_r173 (x1168 : Measure) (y1172u5 : Bool) (y1172u17 : Int) : Option Bool :=
  (ifb y1172u5 (some (decide (y1172u17 = (x1168.notes.length : Int)))) (some false))
noncomputable def lawTogether_j157 (z121u85 : Int) (y1166u5 : Bool) : Option ((Bool × Int) ⊕ ((Bool))) :=
  grd (inI (z121u85 + 1)) (some (.inl (y1166u5, (z121u85 + 1))))
noncomputable def lawTogether_j158 (z121u85 : Int) (x1168 : Measure) (y1172u5 : Bool) (y1172u17 : Int) : Option ((Bool × Int) ⊕ ((Bool))) :=
  bnd (lawTogether_r173 x1168 y1172u5 y1172u17) fun y1282u5 =>
  lawTogether_j157 z121u85 y1282u5
noncomputable def lawTogether_s156 (v : View) (x884 : Int) (x887 : View) : (Bool × Int) → Option ((Bool × Int) ⊕ ((Bool))) := fun (z121u5, z121u85) =>
  ifb (decide (z121u85 < (x887.measures.length : Int))) (bnd (at? x887.measures z121u85) fun x1168 =>
  bnd (at? v.measures z121u85) fun x1174 =>
  bnd (loopO (lawTogether_s168 x884 x1168 x1174) (z121u5, 0, 0)) fun o1242 =>
  match o1242 with
  | (q1281u5, q1281u17) => lawTogether_j158 z121u85 x1168 q1281u5 q1281u17)
  (some (.inr z121u5))
noncomputable def lawTogether_j118 (z4u61 : Int) (y882u5 : Bool) (y882u10 : (List View)) : Option ((Bool × (List View) × Int) ⊕ ((Bool) ⊕ (Bool × (List View)))) :=
  grd (inI (z4u61 + 1)) (some (.inl (y882u5, y882u10, (z4u61 + 1))))
noncomputable def lawTogether_j120 (z4u10 : (List View)) (z4u61 : Int) (x887 : View) (y901u5 : Bool) : Option ((Bool × (List View) × Int) ⊕ ((Bool) ⊕ (Bool × (List View)))) :=
  grd (((z4u10 ++ [x887]) : List View).length * 32 ≤ 140737488355328) (lawTogether_j118 z4u61 y901u5 (z4u10 ++ [x887]))
noncomputable def lawTogether_s117 (v : View) (x27 : (List Int)) : (Bool × (List View) × Int) → Option ((Bool × (List View) × Int) ⊕ ((Bool) ⊕ (Bool × (List View)))) := fun (z4u5, z4u10, z4u61) =>
  ifb (decide (z4u61 < (x27.length : Int))) (bnd (at? x27 z4u61) fun x884 =>
  bnd (pDesk v x884) fun (x887, x888) =>
  bnd (lawTogether_r119 v x887 x888) fun y892u81 =>
  ifb y892u81 (some (.inr (.inl false)))
  (bnd (loopO (lawTogether_s156 v x884 x887) (z4u5, 0)) fun q1291u5 =>
  lawTogether_j120 z4u10 z4u61 x887 q1291u5))
  (some (.inr (.inr (z4u5, z4u10))))
noncomputable def lawTogether_r174 (v : View) (y41u5 : Bool) (x1299 : View) (x1300 : Int) : Option Bool :=
  (ifb y41u5 (ifb (decide (x1300 = 0)) (bnd (r14Same x1299 v) fun x1303 =>
  some x1303) (some false)) (some false))
noncomputable def lawTogether_j3 (v : View) (y41u5 : Bool) (y41u10 : (List View)) : Option Bool :=
  bnd (pJoin y41u10) fun (x1299, x1300) =>
  bnd (lawTogether_r174 v y41u5 x1299 x1300) fun y1305u4 =>
  some y1305u4
noncomputable def lawTogether (v : View) (desks : (IntK .u8)) : Option Bool :=
  bnd (headP) fun x2 =>
  bnd (usable v) fun x6 =>
  ifb (!x6) (some x2)
  (bnd (r18Join ([v])) fun (x11, x12) =>
  bnd (lawTogether_r1 v x11 x12) fun y18u41 =>
  ifb y18u41 (some x2)
  (grd (inI (1 + (Int.tmod (IntKind.wrap .i64 desks.n) 40))) (bnd (pAssign v (1 + (Int.tmod (IntKind.wrap .i64 desks.n) 40))) fun (x27, x28) =>
  ifb (!decide (x28 = 0)) (bnd (lawTogether_r2 x2 x28) fun y34u4 =>
  some y34u4)
  (bnd (loopO (lawTogether_s117 v x27) (x2, [], 0)) fun o873 =>
  match o873 with
  | .inl q1297u0 => some q1297u0
  | .inr (q1298u5, q1298u10) => lawTogether_j3 v q1298u5 q1298u10))))
end Go.Proofs.YtjfkfkjkbgiciaaGreatDoor
namespace Go.Proofs.YtjfkfkjkbgiciaaGreatDoor
open Go Go.Eva Enc
set_option maxRecDepth 4000
attribute [local instance] rndX
attribute [local congr] AWp.congrS
attribute [local simp] evalSeq opRes guardPc evalOp evT Eva.get startT strip putT Eva.after constT typed obAll holds dstOk R.ok R.bad ofD binD unD pickT subL subP Op.operands Call.operands toD toD1 argsD argsD1 callD callT typedAll cfind quietT quietT1 spec0 spec1 spec2 spec3 enc_int enc_bool enc_str enc_fn enc_list dec_int dec_bool dec_str dec_fn dec_list size_int size_str map_dec_enc map_dec_comp cellsT D.cells T.oneT D.one mkT dataT zeroT unD1 setAt loadAs loadEl storeAs fieldP fieldV sizeE intOfT indexP appendT lenT sliceT elemSize arith lfsOk lfOk isAggD mkD fillT placeS TD.agg env restr List.map keyIdx mapTy lookT mapPutT mapDelT mapOf indexS convT evalPure range1 range2 range3 range4 range5 range6 range7 range8 enc_intk size_intk dec_intk eta_intk keysInt_nil keyIdx_E keysInt_E isE_iff put_E del_E get_E getok_E mkeys_E mkeys_E' mkeys_enc specO0 specO1 specO2 specO3 specO4 opD skips gone unbox cloT subO clearT makeT enc_bx dec_bx size_bx selS cloIs List.contains_cons List.contains_nil elAt_zero enc_Rat dec_Rat size_Rat eta_Rat beqL_Rat beqR_Rat enc_Pitch dec_Pitch size_Pitch eta_Pitch beqL_Pitch beqR_Pitch enc_Written dec_Written size_Written eta_Written beqL_Written beqR_Written enc_Measure dec_Measure size_Measure eta_Measure enc_View dec_View size_View eta_View enc_Fraction dec_Fraction size_Fraction eta_Fraction beqL_Fraction beqR_Fraction dat0 len_natTab eqT4 eqT44 eqT49 eqT51 eqT130 te1 te2 te3 te4 te5 te6 te7 te8 te9 te10 te11 te12 te13 te14 te15 te16 te17 te18 te19 te21 te22 te23 te24 te25 te26 te27 te28 te29 te30 te32 te33 te34 te36 te37 te38 te39 te40 te41 te42 te43 te44 te45 te46 te47 te48 te49 te50 te51 te52 te53 te54 te55 te56 te57 te58 te59 te60 te61 te62 te63 te64 te65 te66 te67 te68 te69 te70 te71 te72 te73 te75 te76 te77 te78 te79 te81 te82 te83 te84 te85 te86 te87 te88 te89 te90 te91 te92 te93 te94 te95 te96 te97 te99 te100 te101 te102 te103 te104 te105 te106 te107 te108 te109 te110 te111 te112 te113 te115 te116 te117 te119 te120 te121 te122 te123 te124 te125 te126 te127 te128 te129 te130 te131 te132 te133 te134 te135 te136 te137 te138 te139 te140 te141 te142 te144 te145 te146 te147 te148 te149 te150 te151 te152 te153 te154 te155 te156 te157 te158 te159 te160 te161
section
attribute [local simp] enc_C51 dec_C51 size_C51 eta_C51 enc_C69 dec_C69 size_C69 eta_C69 enc_C33 dec_C33 size_C33 eta_C33 enc_C60_33 dec_C60_33 size_C60_33 eta_C60_33 enc_C34 dec_C34 size_C34 eta_C34 enc_C63_34 dec_C63_34 size_C63_34 eta_C63_34 enc_C39 dec_C39 size_C39 eta_C39 enc_C40 dec_C40 size_C40 eta_C40 enc_C65 dec_C65 size_C65 eta_C65 enc_C36 dec_C36 size_C36 eta_C36 enc_C60_36 dec_C60_36 size_C60_36 eta_C60_36 enc_C63_40 dec_C63_40 size_C63_40 eta_C63_40 enc_C43 dec_C43 size_C43 eta_C43 enc_C44 dec_C44 size_C44 eta_C44 envD fDel cloneR delR Low AO.lows T.lows T.low1 AO.isFrame
noncomputable def sp5 : Eva.Spec := specO2 fun (v : View) (desks : (IntK .u8)) => (lawTogether v desks).map fun r => enc r
set_option maxHeartbeats 4000000 in
theorem ok5 : SpecOk Tryz.prog 5 sp5 := by
 have hV : VOk Tryz.prog (env [(7, sp7), (22, sp22), (21, sp21), (17, sp17), (13, sp13), (15, sp15), (20, sp20)]) := env_ok ⟨ok7, ok22, ok21, ok17, ok13, ok15, ok20, trivial⟩
 refine SpecOk.ofO2 (Enters.of Tryz.func5 (by decide)) fun v desks rr hr => ?_
 obtain ⟨r, hg, rfl⟩ := mpj hr; clear hr
 refine PureCon.ofN hV Tryz.func5 rfl Tryz.ntmps5 fun R hR w0 I0 Q hQ => ?_
 unfold lawTogether at hg
 refine AWp.rS hV none [1, 2] fun K k1 => ?_
 simp; repeat refine ai ?_
 refine kc [se 1 desks, (2, .ptr 0 0)] [.w 24 v] (k1 _ ?_)
 obtain ⟨x2, h3, hg⟩ := bnd_some hg
 refine AWp.rS hV none [1, 2, 5] fun K k4 => ?_
 simp [sp7, h3]; repeat refine ai ?_
 refine kd [se 1 desks, (2, .ptr 0 0), se 5 x2] [.w 24 v] (by first | rfl | (simp [sp7, h3] <;> grind)) (k4 _ ?_)
 refine AWp.seqG fun _ k5 => ?_
 obtain ⟨x6, h7, hg⟩ := bnd_some hg
 refine AWp.rS hV none [1, 2, 5, 26] fun K k8 => ?_
 simp [sp22, h7]; repeat refine ai ?_
 refine kd [se 1 desks, (2, .ptr 0 0), se 5 x2, se 26 (!x6)] [.w 24 v] (by first | rfl | (simp [sp22, h7] <;> grind)) (k8 _ ?_)
 refine AWp.cnd hg rfl ?_ ?_ <;> (clear hg; intro h9 hg)
 ·refine AWp.rS hV none [4] fun K k10 => ?_
  simp; repeat refine ai ?_
  refine kc [se 4 x2] [.w 24 v] (k10 _ ?_)
  refine AWp.ret ?_
  cases hg; exact hQ _ _ (.inl rfl) rt
 ·refine AWp.skip ?_
  refine k5 _ ?_
  obtain ⟨⟨x11, x12⟩, h13, hg⟩ := bnd_some hg; try dsimp only at hg
  have h13g := h13; try simp at h13g
  refine AWp.rS hV none [1, 2, 5, 6, 7] fun K k14 => ?_
  simp [sp21, h13, h13g]; repeat refine ai ?_
  refine kd [se 1 desks, (2, .ptr 0 0), se 5 x2, (6, .ptr 1 0), se 7 x12] [.w 24 v, .w 24 x11] (by first | rfl | (simp [sp21, h13, h13g] <;> grind)) (k14 _ ?_)
  refine AWp.seqG fun _ k15 => ?_
  obtain ⟨y18u41, hx19, hg⟩ := bnd_some hg
  unfold lawTogether_r1 at hx19
  refine AWp.seqJ (fun s' => Sub s' ⟨[se 1 desks, (2, .ptr 0 0), se 5 x2, se 41 y18u41], [.w 24 v]⟩) (fun _ k20 => ?_) ?_
  ·rcases ifb_o hx19 with ⟨c21, hx19⟩ | ⟨c21, hx19⟩
   ·have c21g := c21; try simp at c21g
    refine AWp.regF hV (some [37, 38, 39, 40]) [1, 2, 5, 41] fun K k22 => ?_
    simp [sp17, c21, c21g]; repeat refine ai ?_
    cases hx19; exact k22 _ (k20 _ (Sub.rm [0]))
   ·have c21g := c21; try simp at c21g
    obtain ⟨x16, h17, hx19⟩ := bnd_some hx19
    refine AWp.regF hV (some []) [1, 2, 5, 41] fun K k23 => ?_
    simp [sp17, c21, c21g, h17]; repeat refine ai ?_
    cases hx19; exact k23 _ (k20 _ (Sub.rm [0]))
  ·intro s' hs
   refine AWp.sub hs ?_
   clear hs s'
   refine AWp.cnd hg rfl ?_ ?_ <;> (clear hg; intro h24 hg)
   ·refine AWp.rS hV none [4] fun K k25 => ?_
    simp; repeat refine ai ?_
    refine kc [se 4 x2] [.w 24 v] (k25 _ ?_)
    refine AWp.ret ?_
    cases hg; exact hQ _ _ (.inl rfl) rt
   ·refine AWp.skip ?_
    refine k15 _ ?_
    obtain ⟨g26, hg⟩ := grd_some hg
    unfold inI at g26
    obtain ⟨⟨x27, x28⟩, h29, hg⟩ := bnd_some hg; try dsimp only at hg
    have h29g := h29; try simp at h29g
    refine AWp.rS hV none [2, 5, 8, 9] fun K k30 => ?_
    simp [sp13, h29, h29g]; repeat refine ai ?_
    refine kd [(2, .ptr 0 0), se 5 x2, se 8 x27, se 9 x28] [.w 24 v] (by first | rfl | (simp [sp13, h29, h29g] <;> grind)) (k30 _ ?_)
    refine AWp.seqG fun _ k31 => ?_
    refine AWp.rS hV none [2, 5, 8, 9, 53] fun K k32 => ?_
    simp; repeat refine ai ?_
    refine kc [(2, .ptr 0 0), se 5 x2, se 8 x27, se 9 x28, se 53 (!decide (x28 = 0))] [.w 24 v] (k32 _ ?_)
    refine AWp.cnd hg rfl ?_ ?_ <;> (clear hg; intro h33 hg)
    ·obtain ⟨y34u4, hx35, hg⟩ := bnd_some hg
     unfold lawTogether_r2 at hx35
     refine AWp.seqJ (fun s' => Sub s' ⟨[se 4 y34u4], []⟩) (fun _ k36 => ?_) ?_
     ·rcases ifb_o hx35 with ⟨c37, hx35⟩ | ⟨c37, hx35⟩
      ·refine AWp.regF hV (some []) [4] fun K k38 => ?_
       simp [c37]; repeat refine ai ?_
       cases hx35; exact k38 _ (k36 _ (Sub.rm []))
      ·refine AWp.regF hV (some [56, 57]) [4] fun K k39 => ?_
       simp [c37]; repeat refine ai ?_
       cases hx35; exact k39 _ (k36 _ (Sub.rm []))
     ·intro s' hs
      refine AWp.sub hs ?_
      clear hs s'
      refine AWp.ret ?_
      cases hg; exact hQ _ _ (.inl rfl) rt
    ·refine AWp.skip ?_
     refine k31 _ ?_
     refine AWp.rS hV none [2, 5, 8, 10] fun K k40 => ?_
     simp; repeat refine ai ?_
     refine kc [(2, .ptr 0 0), se 5 x2, se 8 x27, (10, .nils 2)] [.w 24 v] (k40 _ ?_)
     refine AWp.seqJ (fun s' => ∃ y41u5 : Bool, ∃ y41u10 : (List View), lawTogether_j3 v y41u5 y41u10 = some r ∧ Sub s' ⟨[(2, .ptr 0 0), se 5 y41u5, (10, .row 1)], [.w 24 v, .ro 24 2 y41u10]⟩) (fun _ k42 => ?_) ?_
     ·refine AWp.rS hV none [2, 5, 10, 59, 60, 61] fun K k43 => ?_
      simp; repeat refine ai ?_
      refine kc [(2, .ptr 0 0), se 5 x2, (10, .nils 2), se 59 x27, se 60 ((x27.length : Int) : Int), se 61 (0 : Int)] [.w 24 v] (k43 _ ?_)
      refine AWp.block ?_
      obtain ⟨o873, hl874, hq875⟩ := bnd_some hg; clear hg
      refine AWp.loopO (fun ((z4u5, z4u10, z4u61) : Bool × (List View) × Int) => ⟨[(2, .ptr 0 0), se 5 z4u5, (10, .row 1), se 59 x27, se 60 ((x27.length : Int) : Int), se 61 z4u61], [.w 24 v, .ro 24 2 z4u10]⟩) (lawTogether_s117 v x27) (x2, [], 0) hl874 ?_ fun z876 w878 _ hg hx877 k44 => ?_
      ·exact Sub.trans (Sub.adopt 10 24 2 rfl) (Sub.rm [0, 1])
      obtain ⟨z4u5, z4u10, z4u61⟩ := z876
      unfold lawTogether_s117 at hg; try dsimp only at hg
      show AWp _ _ _ _ _ ⟨[(2, .ptr 0 0), se 5 z4u5, (10, .row 1), se 59 x27, se 60 ((x27.length : Int) : Int), se 61 z4u61], [.w 24 v, .ro 24 2 z4u10]⟩ _
      refine AWp.rS hV none [2, 5, 10, 59, 60, 61, 62] fun K k879 => ?_
      simp; repeat refine ai ?_
      refine kc [(2, .ptr 0 0), se 5 z4u5, (10, .row 1), se 59 x27, se 60 ((x27.length : Int) : Int), se 61 z4u61, se 62 (decide (z4u61 < (x27.length : Int)))] [.w 24 v, .ro 24 2 z4u10] (k879 _ ?_)
      refine AWp.seqG fun _ k880 => ?_
      refine AWp.cnd hg rfl ?_ ?_ <;> (clear hg; intro h881 hg)
      ·refine AWp.skip ?_
       refine k880 _ ?_
       refine AWp.seqJ (fun s' => ∃ y882u5 : Bool, ∃ y882u10 : (List View), lawTogether_j118 z4u61 y882u5 y882u10 = some w878 ∧ Sub s' ⟨[(2, .ptr 0 0), se 5 y882u5, (10, .row 1), se 59 x27, se 60 ((x27.length : Int) : Int), se 61 z4u61], [.w 24 v, .ro 24 2 y882u10]⟩) (fun _ k883 => ?_) ?_
       ·refine AWp.block ?_
        obtain ⟨x884, h885, hg⟩ := bnd_some hg
        obtain ⟨h885a, h885b, h885f⟩ := at_e h885; have h885g := h885f; try simp at h885g
        refine AWp.rS hV none [2, 5, 10, 12, 59, 60, 61] fun K k886 => ?_
        simp [h885f, h885g]; repeat refine ai ?_
        refine kd [(2, .ptr 0 0), se 5 z4u5, (10, .row 1), se 12 x884, se 59 x27, se 60 ((x27.length : Int) : Int), se 61 z4u61] [.w 24 v, .ro 24 2 z4u10] (by first | rfl | (simp [h885f, h885g] <;> grind)) (k886 _ ?_)
        obtain ⟨⟨x887, x888⟩, h889, hg⟩ := bnd_some hg; try dsimp only at hg
        refine AWp.rS hV none [2, 5, 10, 12, 13, 14, 59, 60, 61] fun K k890 => ?_
        simp [sp15, h889]; repeat refine ai ?_
        refine kd [(2, .ptr 0 0), se 5 z4u5, (10, .row 1), se 12 x884, (13, .ptr 2 0), se 14 x888, se 59 x27, se 60 ((x27.length : Int) : Int), se 61 z4u61] [.w 24 v, .ro 24 2 z4u10, .w 24 x887] (by first | rfl | (simp [sp15, h889] <;> grind)) (k890 _ ?_)
        refine AWp.seqG fun _ k891 => ?_
        obtain ⟨y892u81, hx893, hg⟩ := bnd_some hg
        unfold lawTogether_r119 at hx893
        refine AWp.seqJ (fun s' => Sub s' ⟨[(2, .ptr 0 0), se 5 z4u5, (10, .row 1), se 12 x884, (13, .ptr 2 0), se 59 x27, se 60 ((x27.length : Int) : Int), se 61 z4u61, se 81 y892u81], [.w 24 v, .ro 24 2 z4u10, .w 24 x887]⟩) (fun _ k894 => ?_) ?_
        ·rcases ifb_o hx893 with ⟨c895, hx893⟩ | ⟨c895, hx893⟩
         ·have c895g := c895; try simp at c895g
          refine AWp.regF hV (some [74, 75, 76, 77, 78, 79, 80]) [2, 5, 10, 12, 13, 59, 60, 61, 81] fun K k896 => ?_
          simp [c895, c895g]; repeat refine ai ?_
          cases hx893; exact k896 _ (k894 _ (Sub.rm [0, 1, 2]))
         ·have c895g := c895; try simp at c895g
          refine AWp.regF hV (some []) [2, 5, 10, 12, 13, 59, 60, 61, 81] fun K k897 => ?_
          simp [c895, c895g]; repeat refine ai ?_
          cases hx893; exact k897 _ (k894 _ (Sub.rm [0, 1, 2]))
        ·intro s' hs
         refine AWp.sub hs ?_
         clear hs s'
         refine AWp.cnd hg rfl ?_ ?_ <;> (clear hg; intro h898 hg)
         ·refine AWp.rS hV none [4] fun K k899 => ?_
          simp; repeat refine ai ?_
          refine kc [se 4 false] [.w 24 v, .ro 24 2 z4u10, .w 24 x887] (k899 _ ?_)
          refine AWp.ret ?_
          cases hx877 _ (oij hg).symm; have hg := hq875; try dsimp only at hg
          cases hg; exact hQ _ _ (.inl rfl) rt
         ·refine AWp.skip ?_
          refine k891 _ ?_
          refine AWp.seqJ (fun s' => ∃ y901u5 : Bool, lawTogether_j120 z4u10 z4u61 x887 y901u5 = some w878 ∧ Sub s' ⟨[(2, .ptr 0 0), se 5 y901u5, (10, .row 1), (13, .ptr 2 0), se 59 x27, se 60 ((x27.length : Int) : Int), se 61 z4u61], [.w 24 v, .ro 24 2 z4u10, .w 24 x887]⟩) (fun _ k902 => ?_) ?_
          ·refine AWp.rS hV none [2, 5, 10, 12, 13, 59, 60, 61, 83, 84, 85] fun K k903 => ?_
           simp; repeat refine ai ?_
           refine kc [(2, .ptr 0 0), se 5 z4u5, (10, .row 1), se 12 x884, (13, .ptr 2 0), se 59 x27, se 60 ((x27.length : Int) : Int), se 61 z4u61, se 83 x887.measures, se 84 ((x887.measures.length : Int) : Int), se 85 (0 : Int)] [.w 24 v, .ro 24 2 z4u10, .w 24 x887] (k903 _ ?_)
           refine AWp.block ?_
           obtain ⟨o1157, hl1158, hq1159⟩ := bnd_some hg; clear hg
           refine AWp.loopO (fun ((z121u5, z121u85) : Bool × Int) => ⟨[(2, .ptr 0 0), se 5 z121u5, (10, .row 1), se 12 x884, (13, .ptr 2 0), se 59 x27, se 60 ((x27.length : Int) : Int), se 61 z4u61, se 83 x887.measures, se 84 ((x887.measures.length : Int) : Int), se 85 z121u85], [.w 24 v, .ro 24 2 z4u10, .w 24 x887]⟩) (lawTogether_s156 v x884 x887) (z4u5, 0) hl1158 ?_ fun z1160 w1162 _ hg hx1161 k904 => ?_
           ·exact Sub.rm [0, 1, 2]
           obtain ⟨z121u5, z121u85⟩ := z1160
           unfold lawTogether_s156 at hg; try dsimp only at hg
           show AWp _ _ _ _ _ ⟨[(2, .ptr 0 0), se 5 z121u5, (10, .row 1), se 12 x884, (13, .ptr 2 0), se 59 x27, se 60 ((x27.length : Int) : Int), se 61 z4u61, se 83 x887.measures, se 84 ((x887.measures.length : Int) : Int), se 85 z121u85], [.w 24 v, .ro 24 2 z4u10, .w 24 x887]⟩ _
           refine AWp.rS hV none [2, 5, 10, 12, 13, 59, 60, 61, 83, 84, 85, 86] fun K k1163 => ?_
           simp; repeat refine ai ?_
           refine kc [(2, .ptr 0 0), se 5 z121u5, (10, .row 1), se 12 x884, (13, .ptr 2 0), se 59 x27, se 60 ((x27.length : Int) : Int), se 61 z4u61, se 83 x887.measures, se 84 ((x887.measures.length : Int) : Int), se 85 z121u85, se 86 (decide (z121u85 < (x887.measures.length : Int)))] [.w 24 v, .ro 24 2 z4u10, .w 24 x887] (k1163 _ ?_)
           refine AWp.seqG fun _ k1164 => ?_
           refine AWp.cnd hg rfl ?_ ?_ <;> (clear hg; intro h1165 hg)
           ·refine AWp.skip ?_
            refine k1164 _ ?_
            refine AWp.seqJ (fun s' => ∃ y1166u5 : Bool, lawTogether_j157 z121u85 y1166u5 = some w1162 ∧ Sub s' ⟨[(2, .ptr 0 0), se 5 y1166u5, (10, .row 1), se 12 x884, (13, .ptr 2 0), se 59 x27, se 60 ((x27.length : Int) : Int), se 61 z4u61, se 83 x887.measures, se 84 ((x887.measures.length : Int) : Int), se 85 z121u85], [.w 24 v, .ro 24 2 z4u10, .w 24 x887]⟩) (fun _ k1167 => ?_) ?_
            ·refine AWp.block ?_
             obtain ⟨x1168, h1169, hg⟩ := bnd_some hg
             obtain ⟨h1169a, h1169b, h1169f⟩ := at_e h1169; have h1169g := h1169f; try simp at h1169g
             refine AWp.rS hV none [2, 5, 10, 12, 13, 15, 16, 59, 60, 61, 83, 84, 85] fun K k1170 => ?_
             simp [h1169f, h1169g]; repeat refine ai ?_
             refine kd [(2, .ptr 0 0), se 5 z121u5, (10, .row 1), se 12 x884, (13, .ptr 2 0), se 15 z121u85, (16, .ptr 3 0), se 59 x27, se 60 ((x27.length : Int) : Int), se 61 z4u61, se 83 x887.measures, se 84 ((x887.measures.length : Int) : Int), se 85 z121u85] [.w 24 v, .ro 24 2 z4u10, .w 24 x887, .w 47 x1168] (by first | rfl | (simp [h1169f, h1169g] <;> grind)) (k1170 _ ?_)
             refine AWp.rS hV none [2, 5, 10, 12, 13, 15, 16, 17, 59, 60, 61, 83, 84, 85] fun K k1171 => ?_
             simp; repeat refine ai ?_
             refine kc [(2, .ptr 0 0), se 5 z121u5, (10, .row 1), se 12 x884, (13, .ptr 2 0), se 15 z121u85, (16, .ptr 3 0), se 17 (0 : Int), se 59 x27, se 60 ((x27.length : Int) : Int), se 61 z4u61, se 83 x887.measures, se 84 ((x887.measures.length : Int) : Int), se 85 z121u85] [.w 24 v, .ro 24 2 z4u10, .w 24 x887, .w 47 x1168] (k1171 _ ?_)
             refine AWp.seqJ (fun s' => ∃ y1172u5 : Bool, ∃ y1172u17 : Int, lawTogether_j158 z121u85 x1168 y1172u5 y1172u17 = some w1162 ∧ Sub s' ⟨[(2, .ptr 0 0), se 5 y1172u5, (10, .row 1), se 12 x884, (13, .ptr 2 0), (16, .ptr 3 0), se 17 y1172u17, se 59 x27, se 60 ((x27.length : Int) : Int), se 61 z4u61, se 83 x887.measures, se 84 ((x887.measures.length : Int) : Int), se 85 z121u85], [.w 24 v, .ro 24 2 z4u10, .w 24 x887, .w 47 x1168]⟩) (fun _ k1173 => ?_) ?_
             ·obtain ⟨x1174, h1175, hg⟩ := bnd_some hg
              obtain ⟨h1175a, h1175b, h1175f⟩ := at_e h1175; have h1175g := h1175f; try simp at h1175g
              refine AWp.rS hV none [2, 5, 10, 12, 13, 16, 17, 59, 60, 61, 83, 84, 85, 95, 96, 97] fun K k1176 => ?_
              simp [h1175f, h1175g]; repeat refine ai ?_
              refine kd [(2, .ptr 0 0), se 5 z121u5, (10, .row 1), se 12 x884, (13, .ptr 2 0), (16, .ptr 3 0), se 17 (0 : Int), se 59 x27, se 60 ((x27.length : Int) : Int), se 61 z4u61, se 83 x887.measures, se 84 ((x887.measures.length : Int) : Int), se 85 z121u85, se 95 x1174.notes, se 96 ((x1174.notes.length : Int) : Int), se 97 (0 : Int)] [.w 24 v, .ro 24 2 z4u10, .w 24 x887, .w 47 x1168] (by first | rfl | (simp [h1175f, h1175g] <;> grind)) (k1176 _ ?_)
              refine AWp.block ?_
              obtain ⟨o1242, hl1243, hq1244⟩ := bnd_some hg; clear hg
              refine AWp.loopO (fun ((z159u5, z159u17, z159u97) : Bool × Int × Int) => ⟨[(2, .ptr 0 0), se 5 z159u5, (10, .row 1), se 12 x884, (13, .ptr 2 0), (16, .ptr 3 0), se 17 z159u17, se 59 x27, se 60 ((x27.length : Int) : Int), se 61 z4u61, se 83 x887.measures, se 84 ((x887.measures.length : Int) : Int), se 85 z121u85, se 95 x1174.notes, se 96 ((x1174.notes.length : Int) : Int), se 97 z159u97], [.w 24 v, .ro 24 2 z4u10, .w 24 x887, .w 47 x1168]⟩) (lawTogether_s168 x884 x1168 x1174) (z121u5, 0, 0) hl1243 ?_ fun z1245 w1247 _ hg hx1246 k1177 => ?_
              ·exact Sub.rm [0, 1, 2, 3]
              obtain ⟨z159u5, z159u17, z159u97⟩ := z1245
              unfold lawTogether_s168 at hg; try dsimp only at hg
              show AWp _ _ _ _ _ ⟨[(2, .ptr 0 0), se 5 z159u5, (10, .row 1), se 12 x884, (13, .ptr 2 0), (16, .ptr 3 0), se 17 z159u17, se 59 x27, se 60 ((x27.length : Int) : Int), se 61 z4u61, se 83 x887.measures, se 84 ((x887.measures.length : Int) : Int), se 85 z121u85, se 95 x1174.notes, se 96 ((x1174.notes.length : Int) : Int), se 97 z159u97], [.w 24 v, .ro 24 2 z4u10, .w 24 x887, .w 47 x1168]⟩ _
              refine AWp.rS hV none [2, 5, 10, 12, 13, 16, 17, 59, 60, 61, 83, 84, 85, 95, 96, 97, 98] fun K k1248 => ?_
              simp; repeat refine ai ?_
              refine kc [(2, .ptr 0 0), se 5 z159u5, (10, .row 1), se 12 x884, (13, .ptr 2 0), (16, .ptr 3 0), se 17 z159u17, se 59 x27, se 60 ((x27.length : Int) : Int), se 61 z4u61, se 83 x887.measures, se 84 ((x887.measures.length : Int) : Int), se 85 z121u85, se 95 x1174.notes, se 96 ((x1174.notes.length : Int) : Int), se 97 z159u97, se 98 (decide (z159u97 < (x1174.notes.length : Int)))] [.w 24 v, .ro 24 2 z4u10, .w 24 x887, .w 47 x1168] (k1248 _ ?_)
              refine AWp.seqG fun _ k1249 => ?_
              refine AWp.cnd hg rfl ?_ ?_ <;> (clear hg; intro h1250 hg)
              ·refine AWp.skip ?_
               refine k1249 _ ?_
               refine AWp.seqJ (fun s' => ∃ y1251u5 : Bool, ∃ y1251u17 : Int, lawTogether_j169 z159u97 y1251u5 y1251u17 = some w1247 ∧ Sub s' ⟨[(2, .ptr 0 0), se 5 y1251u5, (10, .row 1), se 12 x884, (13, .ptr 2 0), (16, .ptr 3 0), se 17 y1251u17, se 59 x27, se 60 ((x27.length : Int) : Int), se 61 z4u61, se 83 x887.measures, se 84 ((x887.measures.length : Int) : Int), se 85 z121u85, se 95 x1174.notes, se 96 ((x1174.notes.length : Int) : Int), se 97 z159u97], [.w 24 v, .ro 24 2 z4u10, .w 24 x887, .w 47 x1168]⟩) (fun _ k1252 => ?_) ?_
               ·refine AWp.block ?_
                obtain ⟨x1253, h1254, hg⟩ := bnd_some hg
                obtain ⟨h1254a, h1254b, h1254f⟩ := at_e h1254; have h1254g := h1254f; try simp at h1254g
                refine AWp.rS hV none [2, 5, 10, 12, 13, 16, 17, 19, 59, 60, 61, 83, 84, 85, 95, 96, 97] fun K k1255 => ?_
                simp [h1254f, h1254g]; repeat refine ai ?_
                refine kd [(2, .ptr 0 0), se 5 z159u5, (10, .row 1), se 12 x884, (13, .ptr 2 0), (16, .ptr 3 0), se 17 z159u17, (19, .ptr 4 0), se 59 x27, se 60 ((x27.length : Int) : Int), se 61 z4u61, se 83 x887.measures, se 84 ((x887.measures.length : Int) : Int), se 85 z121u85, se 95 x1174.notes, se 96 ((x1174.notes.length : Int) : Int), se 97 z159u97] [.w 24 v, .ro 24 2 z4u10, .w 24 x887, .w 47 x1168, .w 51 x1253] (by first | rfl | (simp [h1254f, h1254g] <;> grind)) (k1255 _ ?_)
                obtain ⟨y1258u20, hx1259, hg⟩ := bnd_some hg
                unfold lawTogether_r170 at hx1259
                refine AWp.seqJ (fun s' => Sub s' ⟨[(2, .ptr 0 0), se 5 z159u5, (10, .row 1), se 12 x884, (13, .ptr 2 0), (16, .ptr 3 0), se 17 z159u17, (19, .ptr 4 0), se 20 y1258u20, se 59 x27, se 60 ((x27.length : Int) : Int), se 61 z4u61, se 83 x887.measures, se 84 ((x887.measures.length : Int) : Int), se 85 z121u85, se 95 x1174.notes, se 96 ((x1174.notes.length : Int) : Int), se 97 z159u97], [.w 24 v, .ro 24 2 z4u10, .w 24 x887, .w 47 x1168, .w 51 x1253]⟩) (fun _ k1260 => ?_) ?_
                ·rcases ifb_o hx1259 with ⟨c1261, hx1259⟩ | ⟨c1261, hx1259⟩
                 ·have c1261g := c1261; try simp at c1261g
                  obtain ⟨x1256, h1257, hx1259⟩ := bnd_some hx1259
                  obtain ⟨h1257a, h1257b, h1257f⟩ := at_e h1257; have h1257g := h1257f; try simp at h1257g
                  refine AWp.regDFF hV mixed (some []) 12 [] [2, 5, 10, 12, 13, 16, 17, 19, 20, 59, 60, 61, 83, 84, 85, 95, 96, 97] (by decide) fun K k1262 => ?_
                  simp [c1261, c1261g, h1257f, h1257g]; repeat refine ai ?_
                  cases hx1259; exact k1262 _ (k1260 _ (Sub.rm [0, 1, 2, 3, 4]))
                 ·have c1261g := c1261; try simp at c1261g
                  refine AWp.regDFF hV mixed (some [107, 108, 109, 110, 111, 112, 113]) 12 [] [2, 5, 10, 12, 13, 16, 17, 19, 20, 59, 60, 61, 83, 84, 85, 95, 96, 97] (by decide) fun K k1263 => ?_
                  simp [c1261, c1261g]; repeat refine ai ?_
                  cases hx1259; exact k1263 _ (k1260 _ (Sub.rm [0, 1, 2, 3, 4]))
                ·intro s' hs
                 refine AWp.sub hs ?_
                 clear hs s'
                 refine AWp.seqJ (fun s' => ∃ y1264u17 : Int, lawTogether_j171 x884 z159u5 z159u97 x1253 y1258u20 y1264u17 = some w1247 ∧ Sub s' ⟨[(2, .ptr 0 0), se 5 z159u5, (10, .row 1), se 12 x884, (13, .ptr 2 0), (16, .ptr 3 0), se 17 y1264u17, (19, .ptr 4 0), se 20 y1258u20, se 59 x27, se 60 ((x27.length : Int) : Int), se 61 z4u61, se 83 x887.measures, se 84 ((x887.measures.length : Int) : Int), se 85 z121u85, se 95 x1174.notes, se 96 ((x1174.notes.length : Int) : Int), se 97 z159u97], [.w 24 v, .ro 24 2 z4u10, .w 24 x887, .w 47 x1168, .w 51 x1253]⟩) (fun _ k1265 => ?_) ?_
                 ·refine AWp.rS hV none [2, 5, 10, 12, 13, 16, 17, 19, 20, 59, 60, 61, 83, 84, 85, 95, 96, 97, 115] fun K k1266 => ?_
                  simp; repeat refine ai ?_
                  refine kc [(2, .ptr 0 0), se 5 z159u5, (10, .row 1), se 12 x884, (13, .ptr 2 0), (16, .ptr 3 0), se 17 z159u17, (19, .ptr 4 0), se 20 y1258u20, se 59 x27, se 60 ((x27.length : Int) : Int), se 61 z4u61, se 83 x887.measures, se 84 ((x887.measures.length : Int) : Int), se 85 z121u85, se 95 x1174.notes, se 96 ((x1174.notes.length : Int) : Int), se 97 z159u97, se 115 y1258u20] [.w 24 v, .ro 24 2 z4u10, .w 24 x887, .w 47 x1168, .w 51 x1253] (k1266 _ ?_)
                  refine AWp.cnd hg rfl ?_ ?_ <;> (clear hg; intro h1267 hg)
                  ·obtain ⟨g1268, hg⟩ := grd_some hg
                   unfold inI at g1268
                   refine AWp.regF hV none [2, 5, 10, 12, 13, 16, 17, 19, 20, 59, 60, 61, 83, 84, 85, 95, 96, 97] fun K k1269 => ?_
                   simp; repeat refine ai ?_
                   refine kc [(2, .ptr 0 0), se 5 z159u5, (10, .row 1), se 12 x884, (13, .ptr 2 0), (16, .ptr 3 0), se 17 ((z159u17 + 1) : Int), (19, .ptr 4 0), se 20 y1258u20, se 59 x27, se 60 ((x27.length : Int) : Int), se 61 z4u61, se 83 x887.measures, se 84 ((x887.measures.length : Int) : Int), se 85 z121u85, se 95 x1174.notes, se 96 ((x1174.notes.length : Int) : Int), se 97 z159u97] [.w 24 v, .ro 24 2 z4u10, .w 24 x887, .w 47 x1168, .w 51 x1253] (k1269 _ ?_)
                   exact k1265 _ ⟨_, hg, Sub.rm [0, 1, 2, 3, 4]⟩
                  ·refine AWp.skip ?_
                   exact k1265 _ ⟨_, hg, Sub.rm [0, 1, 2, 3, 4]⟩
                 ·rintro s' ⟨y1264u17, hg, hs⟩
                  unfold lawTogether_j171 at hg
                  refine AWp.sub hs ?_
                  obtain ⟨y1270u5, hx1271, hg⟩ := bnd_some hg
                  unfold lawTogether_r172 at hx1271
                  refine AWp.mid (t := ⟨[(2, .ptr 0 0), se 5 y1270u5, (10, .row 1), se 12 x884, (13, .ptr 2 0), (16, .ptr 3 0), se 17 y1264u17, se 59 x27, se 60 ((x27.length : Int) : Int), se 61 z4u61, se 83 x887.measures, se 84 ((x887.measures.length : Int) : Int), se 85 z121u85, se 95 x1174.notes, se 96 ((x1174.notes.length : Int) : Int), se 97 z159u97], [.w 24 v, .ro 24 2 z4u10, .w 24 x887, .w 47 x1168]⟩) (fun _ k1272 => ?_) ?_
                  ·rcases ifb_o hx1271 with ⟨c1273, hx1271⟩ | ⟨c1273, hx1271⟩
                   ·rcases ifb_o hx1271 with ⟨c1274, hx1271⟩ | ⟨c1274, hx1271⟩
                    ·have c1274g := c1274; try simp at c1274g
                     refine AWp.regF hV (some [125, 126, 127, 128]) [2, 5, 10, 12, 13, 16, 17, 59, 60, 61, 83, 84, 85, 95, 96, 97] fun K k1275 => ?_
                     simp [c1273, c1274, c1274g]; repeat refine ai ?_
                     cases hx1271; exact k1275 _ (k1272 _ (Sub.rm [0, 1, 2, 3]))
                    ·have c1274g := c1274; try simp at c1274g
                     refine AWp.regF hV (some []) [2, 5, 10, 12, 13, 16, 17, 59, 60, 61, 83, 84, 85, 95, 96, 97] fun K k1276 => ?_
                     simp [c1273, c1274, c1274g]; repeat refine ai ?_
                     cases hx1271; exact k1276 _ (k1272 _ (Sub.rm [0, 1, 2, 3]))
                   ·refine AWp.regF hV (some [120, 121, 122, 123, 124, 125, 126, 127, 128, 129, 130]) [2, 5, 10, 12, 13, 16, 17, 59, 60, 61, 83, 84, 85, 95, 96, 97] fun K k1277 => ?_
                    simp [c1273]; repeat refine ai ?_
                    cases hx1271; exact k1277 _ (k1272 _ (Sub.rm [0, 1, 2, 3]))
                  ·exact k1252 _ ⟨_, _, hg, Sub.rm [0, 1, 2, 3]⟩
               ·rintro s' ⟨y1251u5, y1251u17, hg, hs⟩
                unfold lawTogether_j169 at hg
                refine AWp.sub hs ?_
                obtain ⟨g1278, hg⟩ := grd_some hg
                unfold inI at g1278
                refine AWp.regF hV none [2, 5, 10, 12, 13, 16, 17, 59, 60, 61, 83, 84, 85, 95, 96, 97] fun K k1279 => ?_
                simp; repeat refine ai ?_
                refine kc [(2, .ptr 0 0), se 5 y1251u5, (10, .row 1), se 12 x884, (13, .ptr 2 0), (16, .ptr 3 0), se 17 y1251u17, se 59 x27, se 60 ((x27.length : Int) : Int), se 61 z4u61, se 83 x887.measures, se 84 ((x887.measures.length : Int) : Int), se 85 z121u85, se 95 x1174.notes, se 96 ((x1174.notes.length : Int) : Int), se 97 ((z159u97 + 1) : Int)] [.w 24 v, .ro 24 2 z4u10, .w 24 x887, .w 47 x1168] (k1279 _ ?_)
                exact k1177 _ _ (oij hg).symm (Sub.rm [0, 1, 2, 3])
              ·refine AWp.exit ?_
               cases hx1246 _ (oij hg).symm; have hg := hq1244; try dsimp only at hg
               exact k1173 _ ⟨_, _, hg, Sub.rm [0, 1, 2, 3]⟩
             ·rintro s' ⟨y1172u5, y1172u17, hg, hs⟩
              unfold lawTogether_j158 at hg
              refine AWp.sub hs ?_
              obtain ⟨y1282u5, hx1283, hg⟩ := bnd_some hg
              unfold lawTogether_r173 at hx1283
              refine AWp.mid (t := ⟨[(2, .ptr 0 0), se 5 y1282u5, (10, .row 1), se 12 x884, (13, .ptr 2 0), se 59 x27, se 60 ((x27.length : Int) : Int), se 61 z4u61, se 83 x887.measures, se 84 ((x887.measures.length : Int) : Int), se 85 z121u85], [.w 24 v, .ro 24 2 z4u10, .w 24 x887]⟩) (fun _ k1284 => ?_) ?_
              ·rcases ifb_o hx1283 with ⟨c1285, hx1283⟩ | ⟨c1285, hx1283⟩
               ·refine AWp.regF hV (some []) [2, 5, 10, 12, 13, 59, 60, 61, 83, 84, 85] fun K k1286 => ?_
                simp [c1285]; repeat refine ai ?_
                cases hx1283; exact k1286 _ (k1284 _ (Sub.rm [0, 1, 2]))
               ·refine AWp.regF hV (some [135, 136, 137, 138, 139]) [2, 5, 10, 12, 13, 59, 60, 61, 83, 84, 85] fun K k1287 => ?_
                simp [c1285]; repeat refine ai ?_
                cases hx1283; exact k1287 _ (k1284 _ (Sub.rm [0, 1, 2]))
              ·exact k1167 _ ⟨_, hg, Sub.rm [0, 1, 2]⟩
            ·rintro s' ⟨y1166u5, hg, hs⟩
             unfold lawTogether_j157 at hg
             refine AWp.sub hs ?_
             obtain ⟨g1288, hg⟩ := grd_some hg
             unfold inI at g1288
             refine AWp.regF hV none [2, 5, 10, 12, 13, 59, 60, 61, 83, 84, 85] fun K k1289 => ?_
             simp; repeat refine ai ?_
             refine kc [(2, .ptr 0 0), se 5 y1166u5, (10, .row 1), se 12 x884, (13, .ptr 2 0), se 59 x27, se 60 ((x27.length : Int) : Int), se 61 z4u61, se 83 x887.measures, se 84 ((x887.measures.length : Int) : Int), se 85 ((z121u85 + 1) : Int)] [.w 24 v, .ro 24 2 z4u10, .w 24 x887] (k1289 _ ?_)
             exact k904 _ _ (oij hg).symm (Sub.rm [0, 1, 2])
           ·refine AWp.exit ?_
            cases hx1161 _ (oij hg).symm; have hg := hq1159; try dsimp only at hg
            exact k902 _ ⟨_, hg, Sub.rm [0, 1, 2]⟩
          ·rintro s' ⟨y901u5, hg, hs⟩
           unfold lawTogether_j120 at hg
           refine AWp.sub hs ?_
           obtain ⟨g1292, hg⟩ := grd_some hg
           refine AWp.regF hV none [2, 5, 10, 59, 60, 61] fun K k1293 => ?_
           simp; repeat refine ai ?_
           refine kc [(2, .ptr 0 0), se 5 y901u5, (10, .row 3), se 59 x27, se 60 ((x27.length : Int) : Int), se 61 z4u61] [.w 24 v, .dead, .w 24 x887, .ro 24 2 ((z4u10 ++ [x887]) : List View)] (k1293 _ ?_)
           exact k883 _ ⟨_, _, hg, Sub.rm [0, 3]⟩
       ·rintro s' ⟨y882u5, y882u10, hg, hs⟩
        unfold lawTogether_j118 at hg
        refine AWp.sub hs ?_
        obtain ⟨g1294, hg⟩ := grd_some hg
        unfold inI at g1294
        refine AWp.regF hV none [2, 5, 10, 59, 60, 61] fun K k1295 => ?_
        simp; repeat refine ai ?_
        refine kc [(2, .ptr 0 0), se 5 y882u5, (10, .row 1), se 59 x27, se 60 ((x27.length : Int) : Int), se 61 ((z4u61 + 1) : Int)] [.w 24 v, .ro 24 2 y882u10] (k1295 _ ?_)
        exact k44 _ _ (oij hg).symm (Sub.rm [0, 1])
      ·refine AWp.exit ?_
       cases hx877 _ (oij hg).symm; have hg := hq875; try dsimp only at hg
       exact k42 _ ⟨_, _, hg, Sub.rm [0, 1]⟩
     ·rintro s' ⟨y41u5, y41u10, hg, hs⟩
      unfold lawTogether_j3 at hg
      refine AWp.sub hs ?_
      obtain ⟨⟨x1299, x1300⟩, h1301, hg⟩ := bnd_some hg; try dsimp only at hg
      refine AWp.rS hV none [2, 5, 21, 22] fun K k1302 => ?_
      simp [sp20, h1301]; repeat refine ai ?_
      refine kd [(2, .ptr 0 0), se 5 y41u5, (21, .ptr 2 0), se 22 x1300] [.w 24 v, .fro 24 2 y41u10, .w 24 x1299] (by first | rfl | (simp [sp20, h1301] <;> grind)) (k1302 _ ?_)
      obtain ⟨y1305u4, hx1306, hg⟩ := bnd_some hg
      unfold lawTogether_r174 at hx1306
      refine AWp.seqJ (fun s' => Sub s' ⟨[se 4 y1305u4], []⟩) (fun _ k1307 => ?_) ?_
      ·rcases ifb_o hx1306 with ⟨c1308, hx1306⟩ | ⟨c1308, hx1306⟩
       ·rcases ifb_o hx1306 with ⟨c1309, hx1306⟩ | ⟨c1309, hx1306⟩
        ·have c1309g := c1309; try simp at c1309g
         obtain ⟨x1303, h1304, hx1306⟩ := bnd_some hx1306
         refine AWp.regF hV (some []) [4] fun K k1310 => ?_
         simp [sp17, c1308, c1309, c1309g, h1304]; repeat refine ai ?_
         cases hx1306; exact k1310 _ (k1307 _ (Sub.rm []))
        ·have c1309g := c1309; try simp at c1309g
         refine AWp.regF hV (some [158, 159, 160]) [4] fun K k1311 => ?_
         simp [sp17, c1308, c1309, c1309g]; repeat refine ai ?_
         cases hx1306; exact k1311 _ (k1307 _ (Sub.rm []))
       ·refine AWp.regF hV (some [154, 155, 158, 159, 160]) [4] fun K k1312 => ?_
        simp [sp17, c1308]; repeat refine ai ?_
        cases hx1306; exact k1312 _ (k1307 _ (Sub.rm []))
      ·intro s' hs
       refine AWp.sub hs ?_
       clear hs s'
       refine AWp.ret ?_
       cases hg; exact hQ _ _ (.inl rfl) rt
end
end Go.Proofs.YtjfkfkjkbgiciaaGreatDoor
namespace Go.Proofs.YtjfkfkjkbgiciaaGreatDoor
open Go Go.Eva Enc
@[reducible] def onnPZPlE : Onn := ⟨False⟩
attribute [local instance] rndX onnPZPlE
theorem accR_ids {ws z : List Written} (h : accR ws [] = some z) : (z.map Written.id).Nodup ∧ z.Pairwise fun a b => ¬ Lex b a := by
  rcases Sim.acc ws Sim.nil with ⟨e1, e2⟩ | ⟨m', z', e1, e2, hs⟩
  · rw [h] at e2; cases e2
  · rw [h] at e2
    injection e2 with e2
    subst e2
    refine ⟨(hs.pm.map Written.id).nodup_iff.1 ?_, hs.so⟩
    rw [hs.vids]; exact hs.nd
theorem accR_total : ∀ (ws z : List Written), (∀ a ∈ z ++ ws, ∀ b ∈ z ++ ws, a.id = b.id → a = b) → ∃ z', accR ws z = some z'
  | [], z, _ => ⟨z, rfl⟩
  | w :: ws, z, h => by
    have hc : ¬ conf z w = true := by
      intro hc
      unfold conf at hc
      obtain ⟨u, hu, h2⟩ := List.any_eq_true.1 hc
      rw [Bool.and_eq_true, decide_eq_true_eq] at h2
      have := h u (by simp [hu]) w (by simp) h2.1
      rw [this] at h2
      simp at h2
    unfold accR
    rw [if_neg hc]
    refine accR_total ws _ fun a ha b hb hab => ?_
    have hsub : ∀ u, u ∈ putW z w ++ ws → u ∈ z ++ w :: ws := by
      intro u hu
      rcases List.mem_append.1 hu with hu | hu
      · rcases putW_mem.1 hu with hu | hu
        · simp [hu]
        · simp [hu]
      · simp [hu]
    exact h a (hsub a ha) b (hsub b hb) hab
theorem ids_inj {l : List Written} (hn : (l.map Written.id).Nodup) : ∀ a ∈ l, ∀ b ∈ l, a.id = b.id → a = b := by
  induction l with
  | nil => intro a ha; cases ha
  | cons z l ih =>
    simp only [List.map_cons, List.nodup_cons] at hn
    intro x hx y hy hxy
    rcases List.mem_cons.1 hx with hx | hx
    · rcases List.mem_cons.1 hy with hy | hy
      · rw [hx, hy]
      · exact absurd (List.mem_map.2 ⟨y, hy, by rw [← hxy, hx]⟩) hn.1
    · rcases List.mem_cons.1 hy with hy | hy
      · exact absurd (List.mem_map.2 ⟨x, hx, by rw [hxy, hy]⟩) hn.1
      · exact ih hn.2 x hx y hy hxy
theorem nodup_of_ids {l : List Written} (hn : (l.map Written.id).Nodup) : l.Nodup := by
  refine List.Pairwise.imp (S := fun a b => a ≠ b) ?_ (List.pairwise_map.1 hn)
  intro a b h e
  exact h (by rw [e])
theorem accR_same {ns ws : List Written} (h : accR ns [] = some ns) (hm : ∀ w, w ∈ ws ↔ w ∈ ns) : accR ws [] = some ns := by
  obtain ⟨h1, h2⟩ := accR_ids h
  have hi := ids_inj h1
  obtain ⟨z, hz⟩ := accR_total ws [] fun a ha b hb hab => hi a ((hm a).1 (by simpa using ha)) b ((hm b).1 (by simpa using hb)) hab
  obtain ⟨g1, g2⟩ := accR_ids hz
  have hmem := accR_mem _ _ _ hz
  have hp : z.Perm ns := (List.perm_ext_iff_of_nodup (nodup_of_ids g1) (nodup_of_ids h1)).2 fun u => by
    rw [hmem u, ← hm u]; simp
  rw [hz, sorted_uniq g2 h2 hp g1]
theorem joinF_back {l : List View} : ∀ (ms : List Measure) (z r : List Measure × Int), foldS (joinF l) (fun z => .inr z) ms z = .inr r → ∃ ts, r.1 = z.1 ++ ts ∧ ts.length = ms.length ∧ ∀ (i : Nat) (t : Measure), ts[i]? = some t → accR (notesAt l (z.1.length + i)) [] = some t.notes
  | [], z, r, h => by
    injection h with h; subst h
    exact ⟨[], by simp, rfl, fun i t ht => by cases ht⟩
  | m :: ms, z, r, h => by
    simp only [foldS] at h
    cases ha : accR (notesAt l z.1.length) [] with
    | none =>
      have : joinF l z m = .inr (.inl (⟨0, []⟩, 5)) := by unfold joinF; rw [ha]
      rw [this] at h; cases h
    | some ns =>
      have e : joinF l z m = .inl (z.1 ++ [⟨m.bar, m.key, m.length, ns⟩], z.2 + (ns.length : Int)) := by unfold joinF; rw [ha]
      rw [e] at h
      obtain ⟨ts, h1, h2, h3⟩ := joinF_back ms _ r h
      refine ⟨⟨m.bar, m.key, m.length, ns⟩ :: ts, by rw [h1]; simp, by simp [h2], fun i t ht => ?_⟩
      cases i with
      | zero => injection ht with ht; subst ht; exact ha
      | succ i =>
        have := h3 i t ht
        rw [List.length_append] at this
        simp only [List.length_cons, List.length_nil] at this
        rw [← this]; congr 2; omega
theorem joinV_one {v : View} (hv : viewOk v) (h : joinV [v] = (v, 0)) : ∀ (k : Nat) (m : Measure), v.measures[k]? = some m → accR m.notes [] = some m.notes := by
  unfold joinV at h
  simp only [List.getElem?_cons_zero] at h
  split at h
  · rename_i h1
    exfalso
    rcases h1 with h1 | h1
    · simp at h1
    · simp [hv] at h1
  split at h
  · injection h with _ h; simp at h
  cases hr : joinR [v] v with
  | inl e =>
    rw [hr] at h
    unfold joinE at h
    dsimp only at h
    have : ∀ (ms : List Measure) z, foldS (joinF [v]) (fun z => .inr z) ms z = .inl e → e = (⟨0, []⟩, 5) := by
      intro ms
      induction ms with
      | nil => intro z h; cases h
      | cons m ms ih =>
        intro z h
        simp only [foldS] at h
        unfold joinF at h
        cases ha : accR (notesAt [v] z.1.length) [] with
        | none => rw [ha] at h; injection h with h; exact h.symm
        | some ns => rw [ha] at h; exact ih _ h
    have := this _ _ hr
    rw [this] at h
    injection h with _ h; simp at h
  | inr r =>
    rw [hr] at h
    obtain ⟨ms, n⟩ := r
    unfold joinE at h
    dsimp only at h
    split at h
    · injection h with _ h; simp at h
    · injection h with h _
      obtain ⟨ts, h1, h2, h3⟩ := joinF_back _ _ _ hr
      dsimp only at h1
      simp only [List.nil_append] at h1
      have hms : v.measures = ts := by rw [← h1, ← h]
      intro k m hm
      rw [hms] at hm
      have := h3 k m hm
      simp only [List.length_nil, Nat.zero_add] at this
      rw [← hms] at hm
      have e : notesAt [v] k = m.notes := by
        unfold notesAt
        simp [nk_eq hm]
      rw [e] at this
      exact this
theorem joinF_good {l : List View} (p : Written → Bool) : ∀ (ms : List Measure) (z : List Measure × Int), (∀ (i : Nat) m, ms[i]? = some m → accR (notesAt l (z.1.length + i)) [] = some m.notes) → foldS (joinF l) (fun z => .inr z) (ms.map (cutM p)) z = .inr (z.1 ++ ms, z.2 + total ms)
  | [], z, _ => by simp [foldS, total]
  | m :: ms, z, h => by
    have h0 := h 0 m rfl
    rw [Nat.add_zero] at h0
    have e : joinF l z (cutM p m) = .inl (z.1 ++ [m], z.2 + (m.notes.length : Int)) := by
      unfold joinF; rw [h0]; rfl
    rw [List.map_cons]
    simp only [foldS, e]
    rw [joinF_good p ms _ fun i x hx => ?_]
    · rw [total_cons, List.append_assoc, Int.add_assoc]; rfl
    · have := h (i + 1) x hx
      rw [← this]
      congr 2
      simp only [List.length_append, List.length_cons, List.length_nil]; omega
theorem fitB_desk (a b : Int) (v : View) : fitB (deskV a v) (deskV b v) = true := by
  unfold fitB deskV
  simp only [decide_true, List.length_map, Bool.true_and, List.zip_map]
  rw [List.all_eq_true]
  intro p hp
  obtain ⟨⟨x, y⟩, h1, rfl⟩ := List.mem_map.1 hp
  have : x = y := by
    obtain ⟨i, hi, he⟩ := List.mem_iff_getElem.1 h1
    simp at he
    exact he.1.symm.trans he.2
  subst this
  simp [frB, cutM]
theorem joinV_desks {v : View} (hv : viewOk v) {l : List Int} (h1 : 1 ≤ l.length) (h2 : l.length ≤ 100) (hall : ∀ m ∈ v.measures, ∀ w ∈ m.notes, w.voice = 0 ∨ w.voice ∈ l) (hsame : ∀ (k : Nat) (m : Measure), v.measures[k]? = some m → accR m.notes [] = some m.notes) : joinV (l.map fun n => deskV n v) = (v, 0) := by
  obtain ⟨n0, t, rfl⟩ : ∃ n0 t, l = n0 :: t := by
    cases l with
    | nil => simp at h1
    | cons a t => exact ⟨a, t, rfl⟩
  unfold joinV
  simp only [List.map_cons, List.getElem?_cons_zero]
  have hany : ¬ ((deskV n0 v :: t.map fun n => deskV n v).any fun v => !decide (viewOk v)) = true := by
    intro h
    obtain ⟨x, hx, hn⟩ := List.any_eq_true.1 h
    have : viewOk x := by
      rcases List.mem_cons.1 hx with rfl | hx
      · exact viewOk_desk hv _
      · obtain ⟨n, _, rfl⟩ := List.mem_map.1 hx
        exact viewOk_desk hv _
    simp [this] at hn
  have hfit : ¬ ((deskV n0 v :: t.map fun n => deskV n v).any fun x => !fitB (deskV n0 v) x) = true := by
    intro h
    obtain ⟨x, hx, hn⟩ := List.any_eq_true.1 h
    have : fitB (deskV n0 v) x = true := by
      rcases List.mem_cons.1 hx with rfl | hx
      · exact fitB_desk _ _ _
      · obtain ⟨n, _, rfl⟩ := List.mem_map.1 hx
        exact fitB_desk _ _ _
    simp [this] at hn
  rw [if_neg (fun h => by
    rcases h with h | h
    · simp at h h2; omega
    · exact hany h), if_neg hfit]
  have hj : joinR (deskV n0 v :: t.map fun n => deskV n v) (deskV n0 v) = .inr (v.measures, total v.measures) := by
    unfold joinR
    have := joinF_good (l := deskV n0 v :: t.map fun n => deskV n v) (deskP n0) v.measures ([], 0) fun k m hm => ?_
    · rw [List.nil_append, Int.zero_add] at this; exact this
    · simp only [List.length_nil, Nat.zero_add]
      refine accR_same (hsame k m hm) fun w => ?_
      have hnk : ∀ n, nk k (deskV n v) = m.notes.filter (deskP n) := by
        intro n
        have : (deskV n v).measures[k]? = some (cutM (deskP n) m) := by
          unfold deskV; dsimp only; rw [List.getElem?_map, hm]; rfl
        rw [nk_eq this]; rfl
      have e : notesAt (deskV n0 v :: t.map fun n => deskV n v) k = (n0 :: t).flatMap fun n => m.notes.filter (deskP n) := by
        unfold notesAt
        rw [← List.map_cons (f := fun n => deskV n v), List.flatMap_map]
        simp only [hnk]
      rw [e, List.mem_flatMap]
      constructor
      · rintro ⟨n, _, hw⟩
        exact (List.mem_filter.1 hw).1
      · intro hw
        rcases hall m (List.mem_of_getElem? hm) w hw with h0 | h0
        · exact ⟨n0, by simp, List.mem_filter.2 ⟨hw, by simp [deskP, h0]⟩⟩
        · exact ⟨w.voice, h0, List.mem_filter.2 ⟨hw, by simp [deskP]⟩⟩
  rw [hj]
  unfold joinE
  dsimp only
  have := hv.2.1
  rw [if_neg (by omega)]
  rfl
theorem desk_notes {n : Int} {m : Measure} (hm : m.notes.length ≤ 1048576) : loopO (lawTogether_s168 n (cutM (deskP n) m) m) (true, 0, 0) = some (true, ((cutM (deskP n) m).notes.length : Int)) := by
  have hn : (cutM (deskP n) m).notes = m.notes.filter (deskP n) := rfl
  generalize cutM (deskP n) m = x at *
  rw [loop_fold (σ := Bool × Int) (st := fun z k => (z.1, z.2, k)) (step := lawTogether_s168 n x m) (l := m.notes) (fun z w => .inl (z.1, if deskP n w = true then z.2 + 1 else z.2)) (fun _ => (true, (x.notes.length : Int))) (fun k z => z.1 = true ∧ z.2 = (((m.notes.take k).filter (deskP n)).length : Int)) (fun k w z hw hz => by
    have hk := lt_of_get hw
    have hlen : ((m.notes.take k).filter (deskP n)).length ≤ k := Nat.le_trans (List.length_filter_le _ _) (by rw [List.length_take]; omega)
    obtain ⟨z1, z2⟩ := z
    obtain ⟨rfl, hz2⟩ := hz
    dsimp only at hz2
    have e1 : lawTogether_r170 x z2 w = some (deskP n w) := by
      unfold lawTogether_r170
      by_cases hp : deskP n w = true
      · have ha := filter_at (deskP n) hw hp
        rw [← hn] at ha
        have hlt := lt_of_get ha
        rw [hz2, ifb_t' (by simp; omega), bnd_eq (at_eq ha), hp]; simp
      · by_cases hlt : z2 < (x.notes.length : Int)
        · rw [hz2] at hlt ⊢
          have hlt' : ((m.notes.take k).filter (deskP n)).length < x.notes.length := by omega
          have ha : x.notes[((m.notes.take k).filter (deskP n)).length]? = some x.notes[((m.notes.take k).filter (deskP n)).length] := List.getElem?_eq_getElem hlt'
          have hin : deskP n x.notes[((m.notes.take k).filter (deskP n)).length] = true := by
            have h1 := List.mem_of_getElem? ha
            have h2 : ∀ u ∈ x.notes, deskP n u = true := fun u hu => by rw [hn] at hu; exact (List.mem_filter.1 hu).2
            exact h2 _ h1
          generalize x.notes[((m.notes.take k).filter (deskP n)).length] = u at *
          rw [ifb_t' (by simpa using hlt), bnd_eq (at_eq ha)]
          have : u ≠ w := fun e => hp (e ▸ hin)
          simp only [Bool.not_eq_true] at hp
          rw [hp]; simp [this]
        · rw [ifb_f' (by simpa using hlt)]
          simp only [Bool.not_eq_true] at hp
          rw [hp]
    have e2 : lawTogether_r172 n true w (deskP n w) = some true := by
      unfold lawTogether_r172
      rw [ifb_t' rfl]
      by_cases h0 : w.voice = 0
      · rw [ifb_t' (by simp [h0])]; simp [deskP, h0]
      · rw [ifb_f' (by simp [h0])]; simp [deskP, h0]
    unfold lawTogether_s168 lawTogether_j171 lawTogether_j169
    dsimp only
    rw [ifb_t' (by simpa using hk), bnd_eq (at_eq hw), e1, bnd_pure, e2]
    by_cases hp : deskP n w = true
    · rw [ifb_t' hp, grdI (by omega), bnd_pure, grdI (by omega), if_pos hp]; rfl
    · rw [ifb_f' (by simpa using hp), bnd_pure, grdI (by omega), if_neg hp]; rfl) (fun k w z z' hw hz hf => by
    injection hf with hf
    subst hf
    refine ⟨hz.1, ?_⟩
    dsimp only
    rw [filter_take (deskP n) hw]
    by_cases hp : deskP n w = true
    · rw [if_pos hp, if_pos hp, hz.2]; simp
    · rw [if_neg hp, if_neg hp, hz.2]) (fun z hz => by
    obtain ⟨z1, z2⟩ := z
    obtain ⟨rfl, hz2⟩ := hz
    dsimp only at hz2
    unfold lawTogether_s168
    dsimp only
    rw [ifb_f' (by simp), hz2, List.take_length, hn]) (true, 0) ⟨rfl, by simp⟩, foldS_inl (fun (z : Bool × Int) w => (z.1, if deskP n w = true then z.2 + 1 else z.2)) _ _ (fun _ _ _ => rfl)]
theorem desk_all {v : View} (hv : Sm v) (n : Int) : loopO (lawTogether_s156 v n (deskV n v)) (true, 0) = some true := by
  have hl := hv.1
  have hlen : (deskV n v).measures.length = v.measures.length := by simp [deskV]
  rw [loop_fold (σ := Bool) (st := fun z k => (z, k)) (step := lawTogether_s156 v n (deskV n v)) (l := v.measures) (fun z _ => .inl z) (fun _ => true) (fun _ z => z = true) (fun k m z hm hz => by
    have hk := lt_of_get hm
    have hq := hv.2 m (List.mem_of_getElem? hm)
    have hx : (deskV n v).measures[k]? = some (cutM (deskP n) m) := by
      unfold deskV; dsimp only; rw [List.getElem?_map, hm]; rfl
    subst hz
    unfold lawTogether_s156
    dsimp only
    rw [ifb_t' (by simp [hlen]; omega), bnd_eq (at_eq hx), bnd_eq (at_eq hm), desk_notes hq, bnd_pure]
    dsimp only
    unfold lawTogether_j158 lawTogether_j157 lawTogether_r173
    rw [ifb_t' rfl, bnd_pure, grdI (by omega), decide_eq_true rfl]
    rfl) (fun k m z z' hm hz hf => by injection hf with hf; subst hf; exact hz) (fun z hz => by
    subst hz; unfold lawTogether_s156; dsimp only; rw [ifb_f' (by simp [hlen])]) true rfl, foldS_inl (fun (z : Bool) (m : Measure) => z) _ _ (fun _ _ _ => rfl)]
theorem asg_cover {v : View} (hv : viewOk v) {N : Nat} (hN1 : 1 ≤ N) (hN40 : N ≤ 40) (hle : (vList v).length ≤ N) : ∀ m ∈ v.measures, ∀ w ∈ m.notes, w.voice = 0 ∨ w.voice ∈ asgL (vList v) N := by
  intro m hm w hw
  by_cases h0 : w.voice = 0
  · exact .inl h0
  right
  have hb := (hv.2.2 m hm w hw).1
  have hh : hasV v w.voice = true := by
    unfold hasV
    exact List.any_eq_true.2 ⟨m, hm, List.any_eq_true.2 ⟨w, hw, by simp⟩⟩
  have hmem : w.voice ∈ vList v := by
    unfold vList
    refine List.mem_filter.2 ⟨?_, hh⟩
    have : w.voice = 1 ∨ w.voice = 2 ∨ w.voice = 3 ∨ w.voice = 4 ∨ w.voice = 5 ∨ w.voice = 6 ∨ w.voice = 7 ∨ w.voice = 8 ∨ w.voice = 9 := by omega
    rcases this with h | h | h | h | h | h | h | h | h <;> simp [h]
  have := (asg_cnt (vList_asc v) hN40 (vList_len v) hle hmem).1
  exact List.count_pos_iff.1 (by omega)
theorem asg_rng {v : View} {N : Nat} {n : Int} (h : n ∈ asgL (vList v) N) : 0 ≤ n ∧ n ≤ 9 := by
  by_cases hx : 0 < (vList v).length
  · have := asgL_mem hx h
    unfold vList at this
    have h1 := (List.mem_filter.1 this).1
    simp at h1
    omega
  · unfold asgL at h
    obtain ⟨k, _, rfl⟩ := List.mem_map.1 h
    simp [asg, hx]
theorem lawTogether_eq {v : View} {d : IntK .u8} (hv : Sm v) (h0 : 0 ≤ d.n) (h1 : d.n ≤ 255) : lawTogether v d = some true := by
  obtain ⟨N, hN, hN1, hN40⟩ := desk_rng h0 h1
  have hs1 : ∀ x ∈ [v], Sm x := fun x hx => by rw [List.mem_singleton] at hx; subst hx; exact hv
  have hl := hv.1
  unfold lawTogether
  rw [headP_eq, bnd_pure, usable_eq hv, bnd_pure, hN]
  by_cases hu : few v ∧ viewOk v
  rotate_left
  · rw [ifb_t' (by simp only [Bool.not_eq_true', decide_eq_false_iff_not]; exact hu)]
  rw [ifb_f' (by simp [hu]), r18Join_eq (by simp) hs1, bnd_pure]
  have hsj := sm_join hs1
  cases hj : joinV [v] with
  | mk j1 j2 =>
  rw [hj] at hsj
  dsimp only at hsj ⊢
  unfold lawTogether_r1
  by_cases hj2 : j2 = 0
  rotate_left
  · rw [ifb_t' (by simp [hj2]), bnd_pure, ifb_t' rfl]
  rw [ifb_f' (by simp [hj2]), r14Same_eq hsj, bnd_pure, bnd_pure]
  by_cases hj1 : j1 = v
  rotate_left
  · rw [ifb_t' (by simp [hj1])]
  rw [ifb_f' (by simp [hj1]), grdI (by omega), pAssign_eq hv, if_pos ⟨hu.2, by omega, by omega⟩, bnd_pure]
  subst hj1 hj2
  by_cases hlt : (N : Int) < (vList j1).length
  · rw [if_pos hlt]
    dsimp only
    unfold lawTogether_r2
    rw [ifb_t' (by simp), ifb_t' rfl, bnd_pure]
    simp
  rw [if_neg hlt]
  dsimp only
  rw [Int.toNat_natCast, ifb_f' (by simp)]
  have hcov := asg_cover hu.2 hN1 hN40 (by omega)
  have hrng : ∀ n ∈ asgL (vList j1) N, 0 ≤ n ∧ n ≤ 9 := fun n hn => asg_rng hn
  have hlen : (asgL (vList j1) N).length = N := by simp [asgL]
  generalize asgL (vList j1) N = l at *
  have hloop : loopO (lawTogether_s117 j1 l) (true, [], 0) = some (.inr (true, l.map fun n => deskV n j1)) := by
    rw [loop_fold (σ := Bool × List View) (st := fun z k => (z.1, z.2, k)) (step := lawTogether_s117 j1 l) (l := l) (fun z n => .inl (z.1, z.2 ++ [deskV n j1])) (fun _ => .inr (true, l.map fun n => deskV n j1)) (fun k z => z.1 = true ∧ z.2 = (l.take k).map fun n => deskV n j1) (fun k n z hn hz => by
      have hk := lt_of_get hn
      obtain ⟨z1, z2⟩ := z
      obtain ⟨rfl, hz2⟩ := hz
      dsimp only at hz2
      have hz3 : z2.length = k := by rw [hz2]; simp; omega
      have hr := hrng n (List.mem_of_getElem? hn)
      unfold lawTogether_s117
      dsimp only
      rw [ifb_t' (by simpa using hk), bnd_eq (at_eq hn), pDesk_eq hv, if_pos ⟨hu.2, hr.1, hr.2⟩, bnd_pure]
      dsimp only
      unfold lawTogether_r119
      rw [ifb_f' (by simp), bnd_pure, ifb_f' (by simp [deskV]), desk_all hv, bnd_pure]
      unfold lawTogether_j120 lawTogether_j118
      rw [grd_eq (by simp [hz3]; omega), grdI (by omega)]
      rfl) (fun k n z z' hn hz hf => by
      injection hf with hf
      subst hf
      refine ⟨hz.1, ?_⟩
      dsimp only
      rw [List.take_succ, hn, hz.2]
      simp) (fun z hz => by
      obtain ⟨z1, z2⟩ := z
      obtain ⟨rfl, hz2⟩ := hz
      dsimp only at hz2
      unfold lawTogether_s117
      dsimp only
      rw [ifb_f' (by simp), hz2, List.take_length]) (true, []) ⟨rfl, by simp⟩, foldS_inl (fun (z : Bool × List View) (n : Int) => (z.1, z.2 ++ [deskV n j1])) _ _ (fun _ _ _ => rfl)]
  rw [hloop, bnd_pure]
  dsimp only
  unfold lawTogether_j3 lawTogether_r174
  rw [pJoin_eq (by simp; omega) (fun x hx => by
    obtain ⟨n, _, rfl⟩ := List.mem_map.1 hx
    exact sm_desk hv n), bnd_pure, joinV_desks hu.2 (by omega) (by omega) hcov (joinV_one hu.2 hj)]
  dsimp only
  rw [ifb_t' rfl, ifb_t' (by simp), r14Same_eq hv, bnd_pure, decide_eq_true rfl]
  rfl
end Go.Proofs.YtjfkfkjkbgiciaaGreatDoor
