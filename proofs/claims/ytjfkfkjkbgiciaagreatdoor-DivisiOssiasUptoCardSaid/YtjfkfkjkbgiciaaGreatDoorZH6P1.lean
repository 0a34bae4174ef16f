/-
  What this law needs besides, part 1 of 1.
-/
import Derived.Test.YtjfkfkjkbgiciaaGreatDoorX9
set_option linter.all false
set_option linter.unnecessarySimpa false
set_option linter.deprecated false
set_option linter.unusedVariables false
set_option linter.unusedSimpArgs false
set_option linter.unusedSectionVars false
namespace Go.Proofs.YtjfkfkjkbgiciaaGreatDoor
open Go Go.Eva Enc
@[reducible] def onnPZPlA : Onn := ⟨False⟩
attribute [local instance] rndX onnPZPlA
theorem usable_eq {v : View} (hv : Sm v) : usable v = some (decide (few v ∧ viewOk v)) := by
  unfold usable usable_r1
  rw [r14Few_eq hv, bnd_pure]
  by_cases h : few v
  · rw [ifb_t' (by simp [h]), r18Valid_eq hv, bnd_pure, bnd_pure]; simp [h]
  · rw [ifb_f' (by simp [h]), bnd_pure]; simp [h]
theorem chosen_bad {c : List Int} (h : chosenOk c = true) {k : Nat} (hk : k < c.length) : chBad c k = false := by
  unfold chosenOk at h
  simp only [Bool.not_eq_true', List.any_eq_false] at h
  simpa using h k (by simpa using hk)
theorem chosen_pos {c : List Int} (h : chosenOk c = true) {n : Int} (hn : n ∈ c) : 1 ≤ n ∧ n ≤ 20 := by
  obtain ⟨k, hk, rfl⟩ := List.mem_iff_getElem.1 hn
  have := chosen_bad h hk
  unfold chBad at this
  rw [getD_of (List.getElem?_eq_getElem hk)] at this
  simp at this
  omega
theorem chosen_asc {c : List Int} (h : chosenOk c = true) : ∀ (j i : Nat) (hj : j < c.length) (hi : i < j), c[i]'(by omega) < c[j] := by
  intro j
  induction j with
  | zero => intro i hj hi; omega
  | succ j ih =>
    intro i hj hi
    have hb := chosen_bad h hj
    unfold chBad at hb
    have e : j + 1 - 1 = j := rfl
    rw [getD_of (List.getElem?_eq_getElem hj), e, getD_of (List.getElem?_eq_getElem (show j < c.length by omega))] at hb
    simp at hb
    have h1 : c[j] < c[j + 1] := hb.2.2
    by_cases hij : i = j
    · subst hij; exact h1
    · have := ih i (by omega) (by omega)
      omega
theorem played_none {c : List Int} {l : List Written} (h : ∀ n ∈ c, ¬ isIn l n = true) : played c l = 0 := by
  unfold played
  rw [List.find?_eq_none.2 h]; rfl
theorem played_some {c : List Int} (hc : chosenOk c = true) {l : List Written} {o : Int} (h : o ∈ c) (ho : isIn l o = true) : played c l ∈ c ∧ isIn l (played c l) = true ∧ ∀ r ∈ c, isIn l r = true → played c l ≤ r := by
  unfold played
  cases hf : c.find? (isIn l) with
  | none => exact absurd ho (List.find?_eq_none.1 hf o h)
  | some p =>
    obtain ⟨hp, i, hi, hpi, hlt⟩ := List.find?_eq_some_iff_getElem.1 hf
    refine ⟨hpi ▸ List.getElem_mem hi, hp, fun r hr hir => ?_⟩
    obtain ⟨j, hj, rfl⟩ := List.mem_iff_getElem.1 hr
    rw [Option.getD_some]
    by_cases hji : j < i
    · have := hlt j hji
      rw [hir] at this; cases this
    · by_cases hij : i = j
      · subst hij; omega
      · have := chosen_asc hc j i hj (by omega)
        omega
theorem played_filter {c : List Int} (hc : chosenOk c = true) (l : List Written) : played c (l.filter (ossP (played c l))) = played c l := by
  by_cases h : ∃ o ∈ c, isIn l o = true
  · obtain ⟨o, h1, h2⟩ := h
    obtain ⟨h3, h4, h5⟩ := played_some hc h1 h2
    generalize played c l = p at *
    have hin : isIn (l.filter (ossP p)) p = true := by
      unfold isIn at h4 ⊢
      obtain ⟨w, hw, hp⟩ := List.any_eq_true.1 h4
      exact List.any_eq_true.2 ⟨w, List.mem_filter.2 ⟨hw, hp⟩, hp⟩
    have huniq : ∀ r, isIn (l.filter (ossP p)) r = true → r = p := by
      intro r hr
      unfold isIn at hr
      obtain ⟨w, hw, hp⟩ := List.any_eq_true.1 hr
      have := (List.mem_filter.1 hw).2
      unfold ossP at this hp
      simp at this hp; omega
    exact huniq _ (played_some hc h3 hin).2.1
  · have h0 : ∀ n ∈ c, ¬ isIn l n = true := fun n hn hi => h ⟨n, hn, hi⟩
    rw [played_none h0]
    refine played_none fun n hn hi => ?_
    unfold isIn at hi
    obtain ⟨w, hw, hp⟩ := List.any_eq_true.1 hi
    refine h0 n hn ?_
    unfold isIn
    exact List.any_eq_true.2 ⟨w, (List.mem_filter.1 hw).1, hp⟩
theorem ossM_twice {c : List Int} (hc : chosenOk c = true) (m : Measure) : ossM c (ossM c m) = ossM c m := by
  unfold ossM cutM
  dsimp only
  rw [played_filter hc, List.filter_filter]
  simp
theorem ossV_twice {c : List Int} (hc : chosenOk c = true) (v : View) : ossV c (ossV c v) = ossV c v := by
  unfold ossV
  simp only [List.map_map]
  congr 1
  exact List.map_congr_left fun m _ => ossM_twice hc m
theorem total_map (f : Measure → Measure) (hf : ∀ m, (f m).notes.length ≤ m.notes.length) (l : List Measure) : total (l.map f) ≤ total l := by
  induction l with
  | nil => simp [total]
  | cons m l ih =>
    rw [List.map_cons, total_cons, total_cons]
    have := hf m
    omega
theorem viewOk_cut {v : View} (hv : viewOk v) (f : Measure → Measure) (hf : ∀ m, ∀ w ∈ (f m).notes, w ∈ m.notes) (hl : ∀ m, (f m).notes.length ≤ m.notes.length) (p : Int) : viewOk ⟨p, v.measures.map f⟩ := by
  refine ⟨by simpa using hv.1, ?_, fun m hm w hw => ?_⟩
  · have := total_map f hl v.measures
    have := hv.2.1
    dsimp only; omega
  · obtain ⟨x, hx, rfl⟩ := List.mem_map.1 hm
    exact hv.2.2 x hx w (hf x w hw)
theorem viewOk_oss {v : View} (hv : viewOk v) (c : List Int) : viewOk (ossV c v) := viewOk_cut hv _ (fun m w hw => (List.mem_filter.1 hw).1) (fun m => List.length_filter_le _ _) _
theorem viewOk_desk {v : View} (hv : viewOk v) (n : Int) : viewOk (deskV n v) := viewOk_cut hv _ (fun m w hw => (List.mem_filter.1 hw).1) (fun m => List.length_filter_le _ _) _
def lo1 (c : List Int) (z : Int) (w : Written) : Int := c.foldl (fun z n => if w.ossia = n ∧ (z = 0 ∨ n < z) then n else z) z
theorem lo1_eq (w : Written) : ∀ (c : List Int) (z : Int), lo1 c z w = if w.ossia ∈ c then (if z = 0 ∨ w.ossia < z then w.ossia else z) else z
  | [], z => by simp [lo1]
  | n :: c, z => by
    have e : lo1 (n :: c) z w = lo1 c (if w.ossia = n ∧ (z = 0 ∨ n < z) then n else z) w := rfl
    rw [e, lo1_eq w c]
    by_cases h : w.ossia = n
    · subst h
      rw [if_pos (show w.ossia ∈ w.ossia :: c by simp)]
      by_cases h2 : z = 0 ∨ w.ossia < z
      · have et : (if w.ossia = w.ossia ∧ (z = 0 ∨ w.ossia < z) then w.ossia else z) = w.ossia := if_pos ⟨rfl, h2⟩
        rw [et, if_pos h2]
        split
        · split <;> rfl
        · rfl
      · have et : (if w.ossia = w.ossia ∧ (z = 0 ∨ w.ossia < z) then w.ossia else z) = z := if_neg (fun h => h2 h.2)
        rw [et, if_neg h2]
        simp [h2]
    · have h3 : w.ossia ∈ n :: c ↔ w.ossia ∈ c := by simp [h]
      have et : (if w.ossia = n ∧ (z = 0 ∨ n < z) then n else z) = z := if_neg (fun h' => h h'.1)
      rw [et]
      by_cases h4 : w.ossia ∈ c
      · rw [if_pos h4, if_pos (h3.2 h4)]
      · rw [if_neg h4, if_neg (fun h' => h4 (h3.1 h'))]
theorem lo_fold {c : List Int} (hc : ∀ n ∈ c, 1 ≤ n) : ∀ (l : List Written) (z : Int), 0 ≤ z → (l.foldl (lo1 c) z = z ∨ (l.foldl (lo1 c) z ∈ c ∧ isIn l (l.foldl (lo1 c) z) = true)) ∧ (∀ o ∈ c, isIn l o = true → l.foldl (lo1 c) z ≠ 0 ∧ l.foldl (lo1 c) z ≤ o) ∧ (z ≠ 0 → l.foldl (lo1 c) z ≠ 0 ∧ l.foldl (lo1 c) z ≤ z)
  | [], z, _ => by simp [isIn]
  | w :: l, z, hz => by
    rw [List.foldl_cons]
    have e := lo1_eq w c z
    have hz' : 0 ≤ lo1 c z w := by
      rw [e]; split
      · rename_i h
        have := hc _ h
        split <;> omega
      · exact hz
    obtain ⟨h1, h2, h3⟩ := lo_fold hc l (lo1 c z w) hz'
    have hin : ∀ o, isIn (w :: l) o = true ↔ w.ossia = o ∨ isIn l o = true := by
      intro o; unfold isIn ossP; simp
    generalize l.foldl (lo1 c) (lo1 c z w) = r at *
    by_cases hw : w.ossia ∈ c
    · have hp := hc _ hw
      rw [if_pos hw] at e
      by_cases h0 : z = 0 ∨ w.ossia < z
      · rw [if_pos h0] at e
        rw [e] at h1 h3
        have h3' := h3 (by omega)
        refine ⟨?_, fun o ho hio => ?_, fun hz0 => by omega⟩
        · rcases h1 with h1 | ⟨h1, h4⟩
          · right; rw [h1]; exact ⟨hw, (hin _).2 (.inl rfl)⟩
          · right; exact ⟨h1, (hin _).2 (.inr h4)⟩
        · rcases (hin o).1 hio with h | h
          · omega
          · exact h2 o ho h
      · rw [if_neg h0] at e
        rw [e] at h1 h3
        refine ⟨?_, fun o ho hio => ?_, fun hz0 => h3 hz0⟩
        · rcases h1 with h1 | ⟨h1, h4⟩
          · exact .inl h1
          · right; exact ⟨h1, (hin _).2 (.inr h4)⟩
        · rcases (hin o).1 hio with h | h
          · have := h3 (by omega); omega
          · exact h2 o ho h
    · rw [if_neg hw] at e
      rw [e] at h1 h3
      refine ⟨?_, fun o ho hio => ?_, fun hz0 => h3 hz0⟩
      · rcases h1 with h1 | ⟨h1, h4⟩
        · exact .inl h1
        · right; exact ⟨h1, (hin _).2 (.inr h4)⟩
      · rcases (hin o).1 hio with h | h
        · rw [h] at hw; exact absurd ho hw
        · exact h2 o ho h
theorem lo_played {c : List Int} (hc : chosenOk c = true) (l : List Written) : l.foldl (lo1 c) 0 = played c l := by
  obtain ⟨h1, h2, _⟩ := lo_fold (fun n hn => (chosen_pos hc hn).1) l 0 (by omega)
  by_cases h : ∃ o ∈ c, isIn l o = true
  · obtain ⟨o, g1, g2⟩ := h
    obtain ⟨g3, g4, g5⟩ := played_some hc g1 g2
    have g6 := h2 _ g3 g4
    rcases h1 with h1 | ⟨h1, h4⟩
    · omega
    · have := g5 _ h1 h4
      omega
  · rw [played_none fun n hn hi => h ⟨n, hn, hi⟩]
    rcases h1 with h1 | ⟨h1, h4⟩
    · exact h1
    · exact absurd ⟨_, h1, h4⟩ h
theorem filter_take {α : Type} (p : α → Bool) {l : List α} {k : Nat} {x : α} (hx : l[k]? = some x) : (l.take (k + 1)).filter p = if p x = true then (l.take k).filter p ++ [x] else (l.take k).filter p := by
  rw [List.take_succ, hx]
  simp only [Option.toList_some, List.filter_append]
  by_cases h : p x = true
  · simp [h]
  · simp [h]
theorem filter_at {α : Type} (p : α → Bool) {l : List α} {k : Nat} {x : α} (hx : l[k]? = some x) (hp : p x = true) : (l.filter p)[((l.take k).filter p).length]? = some x := by
  have h : l.filter p = (l.take k).filter p ++ (l.drop k).filter p := by rw [← List.filter_append, List.take_append_drop]
  have hk := lt_of_get hx
  have hx' : l[k] = x := by rw [List.getElem?_eq_getElem hk] at hx; exact Option.some.inj hx
  rw [h, List.getElem?_append_right (Nat.le_refl _), Nat.sub_self, List.drop_eq_getElem_cons hk, hx', List.filter_cons, if_pos hp]
  rfl
end Go.Proofs.YtjfkfkjkbgiciaaGreatDoor
namespace Go.Proofs.YtjfkfkjkbgiciaaGreatDoor
open Go Go.Eva Enc
noncomputable def lawOssias_r1 (v : View) (chosen : (List Int)) : Option Bool :=
  (bnd (usable v) fun x6 =>
  ifb (!x6) (some true) (ifb (decide (20 < (chosen.length : Int))) (some true) (bnd (r18Chosen chosen) fun x8 =>
  some (!x8))))
noncomputable def lawOssias_r2 (v : View) (x20 : View) (x21 : Int) (x24 : View) (x25 : Int) : Option Bool :=
  (ifb (!decide (x21 = 0)) (some true) (ifb (!decide (x25 = 0)) (some true) (bnd (r14Same x20 x24) fun x29 =>
  ifb (!x29) (some true) (some (!decide ((x20.measures.length : Int) = (v.measures.length : Int)))))))
noncomputable def lawOssias_r118 (x945 : Written) (z111u12 : Int) (x1001 : Int) : Option Bool :=
  (ifb (decide (x945.ossia = x1001)) (ifb (decide (z111u12 = 0)) (some true) (some (decide (x1001 < z111u12)))) (some false))
noncomputable def lawOssias_j117 (z111u89 : Int) (y999u12 : Int) : Option ((Int × Int) ⊕ ((Int))) :=
  grd (inI (z111u89 + 1)) (some (.inl (y999u12, (z111u89 + 1))))
noncomputable def lawOssias_s116 (chosen : (List Int)) (x945 : Written) : (Int × Int) → Option ((Int × Int) ⊕ ((Int))) := fun (z111u12, z111u89) =>
  ifb (decide (z111u89 < (chosen.length : Int))) (bnd (at? chosen z111u89) fun x1001 =>
  bnd (lawOssias_r118 x945 z111u12 x1001) fun y1004u105 =>
  ifb y1004u105 (lawOssias_j117 z111u89 x1001)
  (lawOssias_j117 z111u89 z111u12))
  (some (.inr z111u12))
noncomputable def lawOssias_j110 (z90u83 : Int) (y943u12 : Int) : Option ((Int × Int) ⊕ ((Int))) :=
  grd (inI (z90u83 + 1)) (some (.inl (y943u12, (z90u83 + 1))))
noncomputable def lawOssias_s109 (chosen : (List Int)) (x774 : Measure) : (Int × Int) → Option ((Int × Int) ⊕ ((Int))) := fun (z90u12, z90u83) =>
  ifb (decide (z90u83 < (x774.notes.length : Int))) (bnd (at? x774.notes z90u83) fun x945 =>
  bnd (loopO (lawOssias_s116 chosen x945) (z90u12, 0)) fun q1017u12 =>
  lawOssias_j110 z90u83 q1017u12)
  (some (.inr z90u12))
noncomputable def lawOssias_r127 (x768 : Measure) (z120u17 : Int) (x1090 : Written) : Option Bool :=
  (ifb (decide ((x768.notes.length : Int) ≤ z120u17)) (some true) (bnd (at? x768.notes z120u17) fun x1096 =>
  some (!decide (x1096 = x1090))))
noncomputable def lawOssias_j126 (z120u116 : Int) (y1088u17 : Int) : Option ((Int × Int) ⊕ ((Bool) ⊕ (Int))) :=
  grd (inI (z120u116 + 1)) (some (.inl (y1088u17, (z120u116 + 1))))
noncomputable def lawOssias_s125 (x768 : Measure) (y772u12 : Int) (x1025 : Measure) : (Int × Int) → Option ((Int × Int) ⊕ ((Bool) ⊕ (Int))) := fun (z120u17, z120u116) =>
  ifb (decide (z120u116 < (x1025.notes.length : Int))) (bnd (at? x1025.notes z120u116) fun x1090 =>
  ifb (decide (x1090.ossia = y772u12)) (bnd (lawOssias_r127 x768 z120u17 x1090) fun y1098u137 =>
  ifb y1098u137 (some (.inr (.inl false)))
  (grd (inI (z120u17 + 1)) (lawOssias_j126 z120u116 (z120u17 + 1))))
  (lawOssias_j126 z120u116 z120u17))
  (some (.inr (.inr z120u17)))
noncomputable def lawOssias_r128 (z4u5 : Bool) (x768 : Measure) (y1023u17 : Int) : Option Bool :=
  (ifb z4u5 (some (decide (y1023u17 = (x768.notes.length : Int)))) (some false))
noncomputable def lawOssias_j88 (z4u71 : Int) (y766u5 : Bool) : Option ((Bool × Int) ⊕ ((Bool) ⊕ (Bool))) :=
  grd (inI (z4u71 + 1)) (some (.inl (y766u5, (z4u71 + 1))))
noncomputable def lawOssias_j119 (z4u5 : Bool) (z4u71 : Int) (x768 : Measure) (y1023u17 : Int) : Option ((Bool × Int) ⊕ ((Bool) ⊕ (Bool))) :=
  bnd (lawOssias_r128 z4u5 x768 y1023u17) fun y1115u5 =>
  lawOssias_j88 z4u71 y1115u5
noncomputable def lawOssias_j89 (v : View) (z4u5 : Bool) (z4u71 : Int) (x768 : Measure) (y772u12 : Int) : Option ((Bool × Int) ⊕ ((Bool) ⊕ (Bool))) :=
  bnd (at? v.measures z4u71) fun x1025 =>
  bnd (loopO (lawOssias_s125 x768 y772u12 x1025) (0, 0)) fun o1079 =>
  match o1079 with
  | .inl q1113u0 => some (.inr (.inl q1113u0))
  | .inr q1114u17 => lawOssias_j119 z4u5 z4u71 x768 q1114u17
noncomputable def lawOssias_s87 (v : View) (chosen : (List Int)) (x20 : View) : (Bool × Int) → Option ((Bool × Int) ⊕ ((Bool) ⊕ (Bool))) := fun (z4u5, z4u71) =>
  ifb (decide (z4u71 < (x20.measures.length : Int))) (bnd (at? x20.measures z4u71) fun x768 =>
  bnd (at? v.measures z4u71) fun x774 =>
  bnd (loopO (lawOssias_s109 chosen x774) (0, 0)) fun q1021u12 =>
  lawOssias_j89 v z4u5 z4u71 x768 q1021u12)
  (some (.inr (.inr z4u5)))
noncomputable def lawOssias_j3 (y43u5 : Bool) : Option Bool :=
  some y43u5
noncomputable def lawOssias (v : View) (chosen : (List Int)) : Option Bool :=
  bnd (headP) fun x2 =>
  bnd (lawOssias_r1 v chosen) fun y10u33 =>
  ifb y10u33 (some x2)
  (bnd (pOssia v chosen) fun (x20, x21) =>
  bnd (pOssia x20 chosen) fun (x24, x25) =>
  bnd (lawOssias_r2 v x20 x21 x24 x25) fun y31u67 =>
  ifb y31u67 (some false)
  (bnd (loopO (lawOssias_s87 v chosen x20) (x2, 0)) fun o757 =>
  match o757 with
  | .inl q1124u0 => some q1124u0
  | .inr q1125u5 => lawOssias_j3 q1125u5))
end Go.Proofs.YtjfkfkjkbgiciaaGreatDoor
namespace Go.Proofs.YtjfkfkjkbgiciaaGreatDoor
open Go Go.Eva Enc
set_option maxRecDepth 4000
attribute [local instance] rndX
attribute [local congr] AWp.congrS
attribute [local simp] evalSeq opRes guardPc evalOp evT Eva.get startT strip putT Eva.after constT typed obAll holds dstOk R.ok R.bad ofD binD unD pickT subL subP Op.operands Call.operands toD toD1 argsD argsD1 callD callT typedAll cfind quietT quietT1 spec0 spec1 spec2 spec3 enc_int enc_bool enc_str enc_fn enc_list dec_int dec_bool dec_str dec_fn dec_list size_int size_str map_dec_enc map_dec_comp cellsT D.cells T.oneT D.one mkT dataT zeroT unD1 setAt loadAs loadEl storeAs fieldP fieldV sizeE intOfT indexP appendT lenT sliceT elemSize arith lfsOk lfOk isAggD mkD fillT placeS TD.agg env restr List.map keyIdx mapTy lookT mapPutT mapDelT mapOf indexS convT evalPure range1 range2 range3 range4 range5 range6 range7 range8 enc_intk size_intk dec_intk eta_intk keysInt_nil keyIdx_E keysInt_E isE_iff put_E del_E get_E getok_E mkeys_E mkeys_E' mkeys_enc specO0 specO1 specO2 specO3 specO4 opD skips gone unbox cloT subO clearT makeT enc_bx dec_bx size_bx selS cloIs List.contains_cons List.contains_nil elAt_zero enc_Rat dec_Rat size_Rat eta_Rat beqL_Rat beqR_Rat enc_Pitch dec_Pitch size_Pitch eta_Pitch beqL_Pitch beqR_Pitch enc_Written dec_Written size_Written eta_Written beqL_Written beqR_Written enc_Measure dec_Measure size_Measure eta_Measure enc_View dec_View size_View eta_View enc_Fraction dec_Fraction size_Fraction eta_Fraction beqL_Fraction beqR_Fraction dat0 len_natTab eqT4 eqT44 eqT49 eqT51 eqT130 te1 te2 te3 te4 te5 te6 te7 te8 te9 te10 te11 te12 te13 te14 te15 te16 te17 te18 te19 te21 te22 te23 te24 te25 te26 te27 te28 te29 te30 te32 te33 te34 te36 te37 te38 te39 te40 te41 te42 te43 te44 te45 te46 te47 te48 te49 te50 te51 te52 te53 te54 te55 te56 te57 te58 te59 te60 te61 te62 te63 te64 te65 te66 te67 te68 te69 te70 te71 te72 te73 te75 te76 te77 te78 te79 te81 te82 te83 te84 te85 te86 te87 te88 te89 te90 te91 te92 te93 te94 te95 te96 te97 te99 te100 te101 te102 te103 te104 te105 te106 te107 te108 te109 te110 te111 te112 te113 te115 te116 te117 te119 te120 te121 te122 te123 te124 te125 te126 te127 te128 te129 te130 te131 te132 te133 te134 te135 te136 te137 te138 te139 te140 te141 te142 te144 te145 te146 te147 te148 te149 te150 te151 te152 te153 te154 te155 te156 te157 te158 te159 te160 te161
section
attribute [local simp] enc_C51 dec_C51 size_C51 eta_C51 enc_C69 dec_C69 size_C69 eta_C69 enc_C33 dec_C33 size_C33 eta_C33 enc_C60_33 dec_C60_33 size_C60_33 eta_C60_33 enc_C34 dec_C34 size_C34 eta_C34 enc_C63_34 dec_C63_34 size_C63_34 eta_C63_34 enc_C39 dec_C39 size_C39 eta_C39 enc_C40 dec_C40 size_C40 eta_C40 enc_C65 dec_C65 size_C65 eta_C65 enc_C36 dec_C36 size_C36 eta_C36 enc_C60_36 dec_C60_36 size_C60_36 eta_C60_36 enc_C63_40 dec_C63_40 size_C63_40 eta_C63_40 enc_C43 dec_C43 size_C43 eta_C43 enc_C44 dec_C44 size_C44 eta_C44 envD fDel cloneR delR Low AO.lows T.lows T.low1 AO.isFrame
noncomputable def sp6 : Eva.Spec := specO2 fun (v : View) (chosen : (List Int)) => (lawOssias v chosen).map fun r => enc r
set_option maxHeartbeats 4000000 in
theorem ok6 : SpecOk Tryz.prog 6 sp6 := by
 have hV : VOk Tryz.prog (env [(7, sp7), (22, sp22), (23, sp23), (18, sp18), (17, sp17)]) := env_ok ⟨ok7, ok22, ok23, ok18, ok17, trivial⟩
 refine SpecOk.ofO2 (Enters.of Tryz.func6 (by decide)) fun v chosen rr hr => ?_
 obtain ⟨r, hg, rfl⟩ := mpj hr; clear hr
 refine PureCon.ofN hV Tryz.func6 rfl Tryz.ntmps6 fun R hR w0 I0 Q hQ => ?_
 unfold lawOssias at hg
 refine AWp.rS hV none [1, 2] fun K k1 => ?_
 simp; repeat refine ai ?_
 refine kc [se 1 chosen, (2, .ptr 0 0)] [.w 24 v] (k1 _ ?_)
 obtain ⟨x2, h3, hg⟩ := bnd_some hg
 refine AWp.rS hV none [1, 2, 5] fun K k4 => ?_
 simp [sp7, h3]; repeat refine ai ?_
 refine kd [se 1 chosen, (2, .ptr 0 0), se 5 x2] [.w 24 v] (by first | rfl | (simp [sp7, h3] <;> grind)) (k4 _ ?_)
 refine AWp.seqG fun _ k5 => ?_
 obtain ⟨y10u33, hx11, hg⟩ := bnd_some hg
 unfold lawOssias_r1 at hx11
 refine AWp.seqJ (fun s' => Sub s' ⟨[se 1 chosen, (2, .ptr 0 0), se 5 x2, se 33 y10u33], [.w 24 v]⟩) (fun _ k12 => ?_) ?_
 ·obtain ⟨x6, h7, hx11⟩ := bnd_some hx11
  rcases ifb_o hx11 with ⟨c13, hx11⟩ | ⟨c13, hx11⟩
  ·have c13g := c13; try simp at c13g
   refine AWp.regF hV (some [25, 26, 27, 30, 31, 32]) [1, 2, 5, 33] fun K k14 => ?_
   simp [sp22, sp23, h7, c13, c13g]; repeat refine ai ?_
   cases hx11; exact k14 _ (k12 _ (Sub.rm [0]))
  ·have c13g := c13; try simp at c13g
   rcases ifb_o hx11 with ⟨c15, hx11⟩ | ⟨c15, hx11⟩
   ·have c15g := c15; try simp at c15g
    refine AWp.regF hV (some [30, 31, 32]) [1, 2, 5, 33] fun K k16 => ?_
    simp [sp22, sp23, h7, c13, c13g, c15, c15g]; repeat refine ai ?_
    cases hx11; exact k16 _ (k12 _ (Sub.rm [0]))
   ·have c15g := c15; try simp at c15g
    obtain ⟨x8, h9, hx11⟩ := bnd_some hx11
    refine AWp.regF hV (some []) [1, 2, 5, 33] fun K k17 => ?_
    simp [sp22, sp23, h7, c13, c13g, c15, c15g, h9]; repeat refine ai ?_
    cases hx11; exact k17 _ (k12 _ (Sub.rm [0]))
 ·intro s' hs
  refine AWp.sub hs ?_
  clear hs s'
  refine AWp.cnd hg rfl ?_ ?_ <;> (clear hg; intro h18 hg)
  ·refine AWp.rS hV none [4] fun K k19 => ?_
   simp; repeat refine ai ?_
   refine kc [se 4 x2] [.w 24 v] (k19 _ ?_)
   refine AWp.ret ?_
   cases hg; exact hQ _ _ (.inl rfl) rt
  ·refine AWp.skip ?_
   refine k5 _ ?_
   obtain ⟨⟨x20, x21⟩, h22, hg⟩ := bnd_some hg; try dsimp only at hg
   refine AWp.rS hV none [1, 2, 5, 6, 7] fun K k23 => ?_
   simp [sp18, h22]; repeat refine ai ?_
   refine kd [se 1 chosen, (2, .ptr 0 0), se 5 x2, (6, .ptr 1 0), se 7 x21] [.w 24 v, .w 24 x20] (by first | rfl | (simp [sp18, h22] <;> grind)) (k23 _ ?_)
   obtain ⟨⟨x24, x25⟩, h26, hg⟩ := bnd_some hg; try dsimp only at hg
   refine AWp.rS hV none [1, 2, 5, 6, 7, 8, 9] fun K k27 => ?_
   simp [sp18, h26]; repeat refine ai ?_
   refine kd [se 1 chosen, (2, .ptr 0 0), se 5 x2, (6, .ptr 1 0), se 7 x21, (8, .ptr 2 0), se 9 x25] [.w 24 v, .w 24 x20, .w 24 x24] (by first | rfl | (simp [sp18, h26] <;> grind)) (k27 _ ?_)
   refine AWp.seqG fun _ k28 => ?_
   obtain ⟨y31u67, hx32, hg⟩ := bnd_some hg
   unfold lawOssias_r2 at hx32
   refine AWp.seqJ (fun s' => Sub s' ⟨[se 1 chosen, (2, .ptr 0 0), se 5 x2, (6, .ptr 1 0), se 67 y31u67], [.w 24 v, .w 24 x20]⟩) (fun _ k33 => ?_) ?_
   ·rcases ifb_o hx32 with ⟨c34, hx32⟩ | ⟨c34, hx32⟩
    ·have c34g := c34; try simp at c34g
     refine AWp.regF hV (some [50, 51, 54, 55, 56, 57, 60, 61, 62, 63, 64, 65, 66]) [1, 2, 5, 6, 67] fun K k35 => ?_
     simp [sp17, c34, c34g]; repeat refine ai ?_
     cases hx32; exact k35 _ (k33 _ (Sub.rm [0, 1]))
    ·have c34g := c34; try simp at c34g
     rcases ifb_o hx32 with ⟨c36, hx32⟩ | ⟨c36, hx32⟩
     ·have c36g := c36; try simp at c36g
      refine AWp.regF hV (some [54, 55, 56, 57, 60, 61, 62, 63, 64, 65, 66]) [1, 2, 5, 6, 67] fun K k37 => ?_
      simp [sp17, c34, c34g, c36, c36g]; repeat refine ai ?_
      cases hx32; exact k37 _ (k33 _ (Sub.rm [0, 1]))
     ·have c36g := c36; try simp at c36g
      obtain ⟨x29, h30, hx32⟩ := bnd_some hx32
      rcases ifb_o hx32 with ⟨c38, hx32⟩ | ⟨c38, hx32⟩
      ·have c38g := c38; try simp at c38g
       refine AWp.regF hV (some [60, 61, 62, 63, 64, 65, 66]) [1, 2, 5, 6, 67] fun K k39 => ?_
       simp [sp17, c34, c34g, c36, c36g, h30, c38, c38g]; repeat refine ai ?_
       cases hx32; exact k39 _ (k33 _ (Sub.rm [0, 1]))
      ·have c38g := c38; try simp at c38g
       refine AWp.regF hV (some []) [1, 2, 5, 6, 67] fun K k40 => ?_
       simp [sp17, c34, c34g, c36, c36g, h30, c38, c38g]; repeat refine ai ?_
       cases hx32; exact k40 _ (k33 _ (Sub.rm [0, 1]))
   ·intro s' hs
    refine AWp.sub hs ?_
    clear hs s'
    refine AWp.cnd hg rfl ?_ ?_ <;> (clear hg; intro h41 hg)
    ·refine AWp.rS hV none [4] fun K k42 => ?_
     simp; repeat refine ai ?_
     refine kc [se 4 false] [.w 24 v, .w 24 x20] (k42 _ ?_)
     refine AWp.ret ?_
     cases hg; exact hQ _ _ (.inl rfl) rt
    ·refine AWp.skip ?_
     refine k28 _ ?_
     refine AWp.seqJ (fun s' => ∃ y43u5 : Bool, lawOssias_j3 y43u5 = some r ∧ Sub s' ⟨[se 5 y43u5], []⟩) (fun _ k44 => ?_) ?_
     ·refine AWp.rS hV none [1, 2, 5, 69, 70, 71] fun K k45 => ?_
      simp; repeat refine ai ?_
      refine kc [se 1 chosen, (2, .ptr 0 0), se 5 x2, se 69 x20.measures, se 70 ((x20.measures.length : Int) : Int), se 71 (0 : Int)] [.w 24 v, .w 24 x20] (k45 _ ?_)
      refine AWp.block ?_
      obtain ⟨o757, hl758, hq759⟩ := bnd_some hg; clear hg
      refine AWp.loopO (fun ((z4u5, z4u71) : Bool × Int) => ⟨[se 1 chosen, (2, .ptr 0 0), se 5 z4u5, se 69 x20.measures, se 70 ((x20.measures.length : Int) : Int), se 71 z4u71], [.w 24 v]⟩) (lawOssias_s87 v chosen x20) (x2, 0) hl758 ?_ fun z760 w762 _ hg hx761 k46 => ?_
      ·exact Sub.rm [0]
      obtain ⟨z4u5, z4u71⟩ := z760
      unfold lawOssias_s87 at hg; try dsimp only at hg
      show AWp _ _ _ _ _ ⟨[se 1 chosen, (2, .ptr 0 0), se 5 z4u5, se 69 x20.measures, se 70 ((x20.measures.length : Int) : Int), se 71 z4u71], [.w 24 v]⟩ _
      refine AWp.rS hV none [1, 2, 5, 69, 70, 71, 72] fun K k763 => ?_
      simp; repeat refine ai ?_
      refine kc [se 1 chosen, (2, .ptr 0 0), se 5 z4u5, se 69 x20.measures, se 70 ((x20.measures.length : Int) : Int), se 71 z4u71, se 72 (decide (z4u71 < (x20.measures.length : Int)))] [.w 24 v] (k763 _ ?_)
      refine AWp.seqG fun _ k764 => ?_
      refine AWp.cnd hg rfl ?_ ?_ <;> (clear hg; intro h765 hg)
      ·refine AWp.skip ?_
       refine k764 _ ?_
       refine AWp.seqJ (fun s' => ∃ y766u5 : Bool, lawOssias_j88 z4u71 y766u5 = some w762 ∧ Sub s' ⟨[se 1 chosen, (2, .ptr 0 0), se 5 y766u5, se 69 x20.measures, se 70 ((x20.measures.length : Int) : Int), se 71 z4u71], [.w 24 v]⟩) (fun _ k767 => ?_) ?_
       ·refine AWp.block ?_
        obtain ⟨x768, h769, hg⟩ := bnd_some hg
        obtain ⟨h769a, h769b, h769f⟩ := at_e h769; have h769g := h769f; try simp at h769g
        refine AWp.rS hV none [1, 2, 5, 10, 11, 69, 70, 71] fun K k770 => ?_
        simp [h769f, h769g]; repeat refine ai ?_
        refine kd [se 1 chosen, (2, .ptr 0 0), se 5 z4u5, se 10 z4u71, (11, .ptr 1 0), se 69 x20.measures, se 70 ((x20.measures.length : Int) : Int), se 71 z4u71] [.w 24 v, .w 47 x768] (by first | rfl | (simp [h769f, h769g] <;> grind)) (k770 _ ?_)
        refine AWp.rS hV none [1, 2, 5, 10, 11, 12, 69, 70, 71] fun K k771 => ?_
        simp; repeat refine ai ?_
        refine kc [se 1 chosen, (2, .ptr 0 0), se 5 z4u5, se 10 z4u71, (11, .ptr 1 0), se 12 (0 : Int), se 69 x20.measures, se 70 ((x20.measures.length : Int) : Int), se 71 z4u71] [.w 24 v, .w 47 x768] (k771 _ ?_)
        refine AWp.seqJ (fun s' => ∃ y772u12 : Int, lawOssias_j89 v z4u5 z4u71 x768 y772u12 = some w762 ∧ Sub s' ⟨[se 1 chosen, (2, .ptr 0 0), se 5 z4u5, se 10 z4u71, (11, .ptr 1 0), se 12 y772u12, se 69 x20.measures, se 70 ((x20.measures.length : Int) : Int), se 71 z4u71], [.w 24 v, .w 47 x768]⟩) (fun _ k773 => ?_) ?_
        ·obtain ⟨x774, h775, hg⟩ := bnd_some hg
         obtain ⟨h775a, h775b, h775f⟩ := at_e h775; have h775g := h775f; try simp at h775g
         refine AWp.rS hV none [1, 2, 5, 10, 11, 12, 69, 70, 71, 81, 82, 83] fun K k776 => ?_
         simp [h775f, h775g]; repeat refine ai ?_
         refine kd [se 1 chosen, (2, .ptr 0 0), se 5 z4u5, se 10 z4u71, (11, .ptr 1 0), se 12 (0 : Int), se 69 x20.measures, se 70 ((x20.measures.length : Int) : Int), se 71 z4u71, se 81 x774.notes, se 82 ((x774.notes.length : Int) : Int), se 83 (0 : Int)] [.w 24 v, .w 47 x768] (by first | rfl | (simp [h775f, h775g] <;> grind)) (k776 _ ?_)
         refine AWp.block ?_
         obtain ⟨o934, hl935, hq936⟩ := bnd_some hg; clear hg
         refine AWp.loopO (fun ((z90u12, z90u83) : Int × Int) => ⟨[se 1 chosen, (2, .ptr 0 0), se 5 z4u5, se 10 z4u71, (11, .ptr 1 0), se 12 z90u12, se 69 x20.measures, se 70 ((x20.measures.length : Int) : Int), se 71 z4u71, se 81 x774.notes, se 82 ((x774.notes.length : Int) : Int), se 83 z90u83], [.w 24 v, .w 47 x768]⟩) (lawOssias_s109 chosen x774) (0, 0) hl935 ?_ fun z937 w939 _ hg hx938 k777 => ?_
         ·exact Sub.rm [0, 1]
         obtain ⟨z90u12, z90u83⟩ := z937
         unfold lawOssias_s109 at hg; try dsimp only at hg
         show AWp _ _ _ _ _ ⟨[se 1 chosen, (2, .ptr 0 0), se 5 z4u5, se 10 z4u71, (11, .ptr 1 0), se 12 z90u12, se 69 x20.measures, se 70 ((x20.measures.length : Int) : Int), se 71 z4u71, se 81 x774.notes, se 82 ((x774.notes.length : Int) : Int), se 83 z90u83], [.w 24 v, .w 47 x768]⟩ _
         refine AWp.rS hV none [1, 2, 5, 10, 11, 12, 69, 70, 71, 81, 82, 83, 84] fun K k940 => ?_
         simp; repeat refine ai ?_
         refine kc [se 1 chosen, (2, .ptr 0 0), se 5 z4u5, se 10 z4u71, (11, .ptr 1 0), se 12 z90u12, se 69 x20.measures, se 70 ((x20.measures.length : Int) : Int), se 71 z4u71, se 81 x774.notes, se 82 ((x774.notes.length : Int) : Int), se 83 z90u83, se 84 (decide (z90u83 < (x774.notes.length : Int)))] [.w 24 v, .w 47 x768] (k940 _ ?_)
         refine AWp.seqG fun _ k941 => ?_
         refine AWp.cnd hg rfl ?_ ?_ <;> (clear hg; intro h942 hg)
         ·refine AWp.skip ?_
          refine k941 _ ?_
          refine AWp.seqJ (fun s' => ∃ y943u12 : Int, lawOssias_j110 z90u83 y943u12 = some w939 ∧ Sub s' ⟨[se 1 chosen, (2, .ptr 0 0), se 5 z4u5, se 10 z4u71, (11, .ptr 1 0), se 12 y943u12, se 69 x20.measures, se 70 ((x20.measures.length : Int) : Int), se 71 z4u71, se 81 x774.notes, se 82 ((x774.notes.length : Int) : Int), se 83 z90u83], [.w 24 v, .w 47 x768]⟩) (fun _ k944 => ?_) ?_
          ·refine AWp.block ?_
           obtain ⟨x945, h946, hg⟩ := bnd_some hg
           obtain ⟨h946a, h946b, h946f⟩ := at_e h946; have h946g := h946f; try simp at h946g
           refine AWp.rS hV none [1, 2, 5, 10, 11, 12, 14, 69, 70, 71, 81, 82, 83] fun K k947 => ?_
           simp [h946f, h946g]; repeat refine ai ?_
           refine kd [se 1 chosen, (2, .ptr 0 0), se 5 z4u5, se 10 z4u71, (11, .ptr 1 0), se 12 z90u12, (14, .ptr 2 0), se 69 x20.measures, se 70 ((x20.measures.length : Int) : Int), se 71 z4u71, se 81 x774.notes, se 82 ((x774.notes.length : Int) : Int), se 83 z90u83] [.w 24 v, .w 47 x768, .w 51 x945] (by first | rfl | (simp [h946f, h946g] <;> grind)) (k947 _ ?_)
           refine AWp.rS hV none [1, 2, 5, 10, 11, 12, 14, 69, 70, 71, 81, 82, 83, 87, 88, 89] fun K k948 => ?_
           simp; repeat refine ai ?_
           refine kc [se 1 chosen, (2, .ptr 0 0), se 5 z4u5, se 10 z4u71, (11, .ptr 1 0), se 12 z90u12, (14, .ptr 2 0), se 69 x20.measures, se 70 ((x20.measures.length : Int) : Int), se 71 z4u71, se 81 x774.notes, se 82 ((x774.notes.length : Int) : Int), se 83 z90u83, se 87 chosen, se 88 ((chosen.length : Int) : Int), se 89 (0 : Int)] [.w 24 v, .w 47 x768, .w 51 x945] (k948 _ ?_)
           refine AWp.block ?_
           obtain ⟨o990, hl991, hq992⟩ := bnd_some hg; clear hg
           refine AWp.loopO (fun ((z111u12, z111u89) : Int × Int) => ⟨[se 1 chosen, (2, .ptr 0 0), se 5 z4u5, se 10 z4u71, (11, .ptr 1 0), se 12 z111u12, (14, .ptr 2 0), se 69 x20.measures, se 70 ((x20.measures.length : Int) : Int), se 71 z4u71, se 81 x774.notes, se 82 ((x774.notes.length : Int) : Int), se 83 z90u83, se 87 chosen, se 88 ((chosen.length : Int) : Int), se 89 z111u89], [.w 24 v, .w 47 x768, .w 51 x945]⟩) (lawOssias_s116 chosen x945) (z90u12, 0) hl991 ?_ fun z993 w995 _ hg hx994 k949 => ?_
           ·exact Sub.rm [0, 1, 2]
           obtain ⟨z111u12, z111u89⟩ := z993
           unfold lawOssias_s116 at hg; try dsimp only at hg
           show AWp _ _ _ _ _ ⟨[se 1 chosen, (2, .ptr 0 0), se 5 z4u5, se 10 z4u71, (11, .ptr 1 0), se 12 z111u12, (14, .ptr 2 0), se 69 x20.measures, se 70 ((x20.measures.length : Int) : Int), se 71 z4u71, se 81 x774.notes, se 82 ((x774.notes.length : Int) : Int), se 83 z90u83, se 87 chosen, se 88 ((chosen.length : Int) : Int), se 89 z111u89], [.w 24 v, .w 47 x768, .w 51 x945]⟩ _
           refine AWp.rS hV none [1, 2, 5, 10, 11, 12, 14, 69, 70, 71, 81, 82, 83, 87, 88, 89, 90] fun K k996 => ?_
           simp; repeat refine ai ?_
           refine kc [se 1 chosen, (2, .ptr 0 0), se 5 z4u5, se 10 z4u71, (11, .ptr 1 0), se 12 z111u12, (14, .ptr 2 0), se 69 x20.measures, se 70 ((x20.measures.length : Int) : Int), se 71 z4u71, se 81 x774.notes, se 82 ((x774.notes.length : Int) : Int), se 83 z90u83, se 87 chosen, se 88 ((chosen.length : Int) : Int), se 89 z111u89, se 90 (decide (z111u89 < (chosen.length : Int)))] [.w 24 v, .w 47 x768, .w 51 x945] (k996 _ ?_)
           refine AWp.seqG fun _ k997 => ?_
           refine AWp.cnd hg rfl ?_ ?_ <;> (clear hg; intro h998 hg)
           ·refine AWp.skip ?_
            refine k997 _ ?_
            refine AWp.seqJ (fun s' => ∃ y999u12 : Int, lawOssias_j117 z111u89 y999u12 = some w995 ∧ Sub s' ⟨[se 1 chosen, (2, .ptr 0 0), se 5 z4u5, se 10 z4u71, (11, .ptr 1 0), se 12 y999u12, (14, .ptr 2 0), se 69 x20.measures, se 70 ((x20.measures.length : Int) : Int), se 71 z4u71, se 81 x774.notes, se 82 ((x774.notes.length : Int) : Int), se 83 z90u83, se 87 chosen, se 88 ((chosen.length : Int) : Int), se 89 z111u89], [.w 24 v, .w 47 x768, .w 51 x945]⟩) (fun _ k1000 => ?_) ?_
            ·refine AWp.block ?_
             obtain ⟨x1001, h1002, hg⟩ := bnd_some hg
             obtain ⟨h1002a, h1002b, h1002f⟩ := at_e h1002; have h1002g := h1002f; try simp at h1002g
             refine AWp.rS hV none [1, 2, 5, 10, 11, 12, 14, 16, 69, 70, 71, 81, 82, 83, 87, 88, 89] fun K k1003 => ?_
             simp [h1002f, h1002g]; repeat refine ai ?_
             refine kd [se 1 chosen, (2, .ptr 0 0), se 5 z4u5, se 10 z4u71, (11, .ptr 1 0), se 12 z111u12, (14, .ptr 2 0), se 16 x1001, se 69 x20.measures, se 70 ((x20.measures.length : Int) : Int), se 71 z4u71, se 81 x774.notes, se 82 ((x774.notes.length : Int) : Int), se 83 z90u83, se 87 chosen, se 88 ((chosen.length : Int) : Int), se 89 z111u89] [.w 24 v, .w 47 x768, .w 51 x945] (by first | rfl | (simp [h1002f, h1002g] <;> grind)) (k1003 _ ?_)
             obtain ⟨y1004u105, hx1005, hg⟩ := bnd_some hg
             unfold lawOssias_r118 at hx1005
             refine AWp.seqJ (fun s' => Sub s' ⟨[se 1 chosen, (2, .ptr 0 0), se 5 z4u5, se 10 z4u71, (11, .ptr 1 0), se 12 z111u12, (14, .ptr 2 0), se 16 x1001, se 69 x20.measures, se 70 ((x20.measures.length : Int) : Int), se 71 z4u71, se 81 x774.notes, se 82 ((x774.notes.length : Int) : Int), se 83 z90u83, se 87 chosen, se 88 ((chosen.length : Int) : Int), se 89 z111u89, se 105 y1004u105], [.w 24 v, .w 47 x768, .w 51 x945]⟩) (fun _ k1006 => ?_) ?_
             ·rcases ifb_o hx1005 with ⟨c1007, hx1005⟩ | ⟨c1007, hx1005⟩
              ·have c1007g := eq_true (of_decide_eq_true c1007)
               rcases ifb_o hx1005 with ⟨c1008, hx1005⟩ | ⟨c1008, hx1005⟩
               ·have c1008g := c1008; try simp at c1008g
                refine AWp.regF hV (some [101, 102, 103]) [1, 2, 5, 10, 11, 12, 14, 16, 69, 70, 71, 81, 82, 83, 87, 88, 89, 105] fun K k1009 => ?_
                simp [c1007, c1007g, c1008, c1008g]; repeat refine ai ?_
                cases hx1005; exact k1009 _ (k1006 _ (Sub.rm [0, 1, 2]))
               ·have c1008g := c1008; try simp at c1008g
                refine AWp.regF hV (some []) [1, 2, 5, 10, 11, 12, 14, 16, 69, 70, 71, 81, 82, 83, 87, 88, 89, 105] fun K k1010 => ?_
                simp [c1007, c1007g, c1008, c1008g]; repeat refine ai ?_
                cases hx1005; exact k1010 _ (k1006 _ (Sub.rm [0, 1, 2]))
              ·have c1007g := c1007; try simp at c1007g
               refine AWp.regF hV (some [98, 99, 100, 101, 102, 103, 104]) [1, 2, 5, 10, 11, 12, 14, 16, 69, 70, 71, 81, 82, 83, 87, 88, 89, 105] fun K k1011 => ?_
               simp [c1007, c1007g]; repeat refine ai ?_
               cases hx1005; exact k1011 _ (k1006 _ (Sub.rm [0, 1, 2]))
             ·intro s' hs
              refine AWp.sub hs ?_
              clear hs s'
              refine AWp.cnd hg rfl ?_ ?_ <;> (clear hg; intro h1012 hg)
              ·refine AWp.regF hV none [1, 2, 5, 10, 11, 12, 14, 69, 70, 71, 81, 82, 83, 87, 88, 89] fun K k1013 => ?_
               simp; repeat refine ai ?_
               refine kc [se 1 chosen, (2, .ptr 0 0), se 5 z4u5, se 10 z4u71, (11, .ptr 1 0), se 12 x1001, (14, .ptr 2 0), se 69 x20.measures, se 70 ((x20.measures.length : Int) : Int), se 71 z4u71, se 81 x774.notes, se 82 ((x774.notes.length : Int) : Int), se 83 z90u83, se 87 chosen, se 88 ((chosen.length : Int) : Int), se 89 z111u89] [.w 24 v, .w 47 x768, .w 51 x945] (k1013 _ ?_)
               exact k1000 _ ⟨_, hg, Sub.rm [0, 1, 2]⟩
              ·refine AWp.skip ?_
               exact k1000 _ ⟨_, hg, Sub.rm [0, 1, 2]⟩
            ·rintro s' ⟨y999u12, hg, hs⟩
             unfold lawOssias_j117 at hg
             refine AWp.sub hs ?_
             obtain ⟨g1014, hg⟩ := grd_some hg
             unfold inI at g1014
             refine AWp.regF hV none [1, 2, 5, 10, 11, 12, 14, 69, 70, 71, 81, 82, 83, 87, 88, 89] fun K k1015 => ?_
             simp; repeat refine ai ?_
             refine kc [se 1 chosen, (2, .ptr 0 0), se 5 z4u5, se 10 z4u71, (11, .ptr 1 0), se 12 y999u12, (14, .ptr 2 0), se 69 x20.measures, se 70 ((x20.measures.length : Int) : Int), se 71 z4u71, se 81 x774.notes, se 82 ((x774.notes.length : Int) : Int), se 83 z90u83, se 87 chosen, se 88 ((chosen.length : Int) : Int), se 89 ((z111u89 + 1) : Int)] [.w 24 v, .w 47 x768, .w 51 x945] (k1015 _ ?_)
             exact k949 _ _ (oij hg).symm (Sub.rm [0, 1, 2])
           ·refine AWp.exit ?_
            cases hx994 _ (oij hg).symm; have hg := hq992; try dsimp only at hg
            exact k944 _ ⟨_, hg, Sub.rm [0, 1]⟩
          ·rintro s' ⟨y943u12, hg, hs⟩
           unfold lawOssias_j110 at hg
           refine AWp.sub hs ?_
           obtain ⟨g1018, hg⟩ := grd_some hg
           unfold inI at g1018
           refine AWp.regF hV none [1, 2, 5, 10, 11, 12, 69, 70, 71, 81, 82, 83] fun K k1019 => ?_
           simp; repeat refine ai ?_
           refine kc [se 1 chosen, (2, .ptr 0 0), se 5 z4u5, se 10 z4u71, (11, .ptr 1 0), se 12 y943u12, se 69 x20.measures, se 70 ((x20.measures.length : Int) : Int), se 71 z4u71, se 81 x774.notes, se 82 ((x774.notes.length : Int) : Int), se 83 ((z90u83 + 1) : Int)] [.w 24 v, .w 47 x768] (k1019 _ ?_)
           exact k777 _ _ (oij hg).symm (Sub.rm [0, 1])
         ·refine AWp.exit ?_
          cases hx938 _ (oij hg).symm; have hg := hq936; try dsimp only at hg
          exact k773 _ ⟨_, hg, Sub.rm [0, 1]⟩
        ·rintro s' ⟨y772u12, hg, hs⟩
         unfold lawOssias_j89 at hg
         refine AWp.sub hs ?_
         refine AWp.rS hV none [1, 2, 5, 10, 11, 12, 17, 69, 70, 71] fun K k1022 => ?_
         simp; repeat refine ai ?_
         refine kc [se 1 chosen, (2, .ptr 0 0), se 5 z4u5, se 10 z4u71, (11, .ptr 1 0), se 12 y772u12, se 17 (0 : Int), se 69 x20.measures, se 70 ((x20.measures.length : Int) : Int), se 71 z4u71] [.w 24 v, .w 47 x768] (k1022 _ ?_)
         refine AWp.seqJ (fun s' => ∃ y1023u17 : Int, lawOssias_j119 z4u5 z4u71 x768 y1023u17 = some w762 ∧ Sub s' ⟨[se 1 chosen, (2, .ptr 0 0), se 5 z4u5, (11, .ptr 1 0), se 17 y1023u17, se 69 x20.measures, se 70 ((x20.measures.length : Int) : Int), se 71 z4u71], [.w 24 v, .w 47 x768]⟩) (fun _ k1024 => ?_) ?_
         ·obtain ⟨x1025, h1026, hg⟩ := bnd_some hg
          obtain ⟨h1026a, h1026b, h1026f⟩ := at_e h1026; have h1026g := h1026f; try simp at h1026g
          refine AWp.rS hV none [1, 2, 5, 11, 12, 17, 69, 70, 71, 114, 115, 116] fun K k1027 => ?_
          simp [h1026f, h1026g]; repeat refine ai ?_
          refine kd [se 1 chosen, (2, .ptr 0 0), se 5 z4u5, (11, .ptr 1 0), se 12 y772u12, se 17 (0 : Int), se 69 x20.measures, se 70 ((x20.measures.length : Int) : Int), se 71 z4u71, se 114 x1025.notes, se 115 ((x1025.notes.length : Int) : Int), se 116 (0 : Int)] [.w 24 v, .w 47 x768] (by first | rfl | (simp [h1026f, h1026g] <;> grind)) (k1027 _ ?_)
          refine AWp.block ?_
          obtain ⟨o1079, hl1080, hq1081⟩ := bnd_some hg; clear hg
          refine AWp.loopO (fun ((z120u17, z120u116) : Int × Int) => ⟨[se 1 chosen, (2, .ptr 0 0), se 5 z4u5, (11, .ptr 1 0), se 12 y772u12, se 17 z120u17, se 69 x20.measures, se 70 ((x20.measures.length : Int) : Int), se 71 z4u71, se 114 x1025.notes, se 115 ((x1025.notes.length : Int) : Int), se 116 z120u116], [.w 24 v, .w 47 x768]⟩) (lawOssias_s125 x768 y772u12 x1025) (0, 0) hl1080 ?_ fun z1082 w1084 _ hg hx1083 k1028 => ?_
          ·exact Sub.rm [0, 1]
          obtain ⟨z120u17, z120u116⟩ := z1082
          unfold lawOssias_s125 at hg; try dsimp only at hg
          show AWp _ _ _ _ _ ⟨[se 1 chosen, (2, .ptr 0 0), se 5 z4u5, (11, .ptr 1 0), se 12 y772u12, se 17 z120u17, se 69 x20.measures, se 70 ((x20.measures.length : Int) : Int), se 71 z4u71, se 114 x1025.notes, se 115 ((x1025.notes.length : Int) : Int), se 116 z120u116], [.w 24 v, .w 47 x768]⟩ _
          refine AWp.rS hV none [1, 2, 5, 11, 12, 17, 69, 70, 71, 114, 115, 116, 117] fun K k1085 => ?_
          simp; repeat refine ai ?_
          refine kc [se 1 chosen, (2, .ptr 0 0), se 5 z4u5, (11, .ptr 1 0), se 12 y772u12, se 17 z120u17, se 69 x20.measures, se 70 ((x20.measures.length : Int) : Int), se 71 z4u71, se 114 x1025.notes, se 115 ((x1025.notes.length : Int) : Int), se 116 z120u116, se 117 (decide (z120u116 < (x1025.notes.length : Int)))] [.w 24 v, .w 47 x768] (k1085 _ ?_)
          refine AWp.seqG fun _ k1086 => ?_
          refine AWp.cnd hg rfl ?_ ?_ <;> (clear hg; intro h1087 hg)
          ·refine AWp.skip ?_
           refine k1086 _ ?_
           refine AWp.seqJ (fun s' => ∃ y1088u17 : Int, lawOssias_j126 z120u116 y1088u17 = some w1084 ∧ Sub s' ⟨[se 1 chosen, (2, .ptr 0 0), se 5 z4u5, (11, .ptr 1 0), se 12 y772u12, se 17 y1088u17, se 69 x20.measures, se 70 ((x20.measures.length : Int) : Int), se 71 z4u71, se 114 x1025.notes, se 115 ((x1025.notes.length : Int) : Int), se 116 z120u116], [.w 24 v, .w 47 x768]⟩) (fun _ k1089 => ?_) ?_
           ·refine AWp.block ?_
            obtain ⟨x1090, h1091, hg⟩ := bnd_some hg
            obtain ⟨h1091a, h1091b, h1091f⟩ := at_e h1091; have h1091g := h1091f; try simp at h1091g
            refine AWp.rS hV none [1, 2, 5, 11, 12, 17, 19, 69, 70, 71, 114, 115, 116] fun K k1092 => ?_
            simp [h1091f, h1091g]; repeat refine ai ?_
            refine kd [se 1 chosen, (2, .ptr 0 0), se 5 z4u5, (11, .ptr 1 0), se 12 y772u12, se 17 z120u17, (19, .ptr 2 0), se 69 x20.measures, se 70 ((x20.measures.length : Int) : Int), se 71 z4u71, se 114 x1025.notes, se 115 ((x1025.notes.length : Int) : Int), se 116 z120u116] [.w 24 v, .w 47 x768, .w 51 x1090] (by first | rfl | (simp [h1091f, h1091g] <;> grind)) (k1092 _ ?_)
            refine AWp.rS hV none [1, 2, 5, 11, 12, 17, 19, 69, 70, 71, 114, 115, 116, 123] fun K k1093 => ?_
            simp; repeat refine ai ?_
            refine kc [se 1 chosen, (2, .ptr 0 0), se 5 z4u5, (11, .ptr 1 0), se 12 y772u12, se 17 z120u17, (19, .ptr 2 0), se 69 x20.measures, se 70 ((x20.measures.length : Int) : Int), se 71 z4u71, se 114 x1025.notes, se 115 ((x1025.notes.length : Int) : Int), se 116 z120u116, se 123 (decide (x1090.ossia = y772u12))] [.w 24 v, .w 47 x768, .w 51 x1090] (k1093 _ ?_)
            refine AWp.cnd hg rfl ?_ ?_ <;> (clear hg; intro h1094 hg)
            ·refine AWp.seqG fun _ k1095 => ?_
             obtain ⟨y1098u137, hx1099, hg⟩ := bnd_some hg
             unfold lawOssias_r127 at hx1099
             refine AWp.seqJ (fun s' => Sub s' ⟨[se 1 chosen, (2, .ptr 0 0), se 5 z4u5, (11, .ptr 1 0), se 12 y772u12, se 17 z120u17, se 69 x20.measures, se 70 ((x20.measures.length : Int) : Int), se 71 z4u71, se 114 x1025.notes, se 115 ((x1025.notes.length : Int) : Int), se 116 z120u116, se 137 y1098u137], [.w 24 v, .w 47 x768]⟩) (fun _ k1100 => ?_) ?_
             ·rcases ifb_o hx1099 with ⟨c1101, hx1099⟩ | ⟨c1101, hx1099⟩
              ·have c1101g := c1101; try simp at c1101g
               refine AWp.regDFF hV mixed (some [130, 131, 132, 133, 134, 135, 136]) 12 [] [1, 2, 5, 11, 12, 17, 69, 70, 71, 114, 115, 116, 137] (by decide) fun K k1102 => ?_
               simp [c1101, c1101g]; repeat refine ai ?_
               cases hx1099; exact k1102 _ (k1100 _ (Sub.rm [0, 1]))
              ·have c1101g := c1101; try simp at c1101g
               obtain ⟨x1096, h1097, hx1099⟩ := bnd_some hx1099
               obtain ⟨h1097a, h1097b, h1097f⟩ := at_e h1097; have h1097g := h1097f; try simp at h1097g
               refine AWp.regDFF hV mixed (some []) 12 [] [1, 2, 5, 11, 12, 17, 69, 70, 71, 114, 115, 116, 137] (by decide) fun K k1103 => ?_
               simp [c1101, c1101g, h1097f, h1097g]; repeat refine ai ?_
               cases hx1099; exact k1103 _ (k1100 _ (Sub.rm [0, 1]))
             ·intro s' hs
              refine AWp.sub hs ?_
              clear hs s'
              refine AWp.cnd hg rfl ?_ ?_ <;> (clear hg; intro h1104 hg)
              ·refine AWp.rS hV none [4] fun K k1105 => ?_
               simp; repeat refine ai ?_
               refine kc [se 4 false] [.w 24 v, .w 47 x768] (k1105 _ ?_)
               refine AWp.ret ?_
               cases hx1083 _ (oij hg).symm; have hg := hq1081; try dsimp only at hg
               cases hx761 _ (oij hg).symm; have hg := hq759; try dsimp only at hg
               cases hg; exact hQ _ _ (.inl rfl) rt
              ·refine AWp.skip ?_
               refine k1095 _ ?_
               obtain ⟨g1108, hg⟩ := grd_some hg
               unfold inI at g1108
               refine AWp.regF hV none [1, 2, 5, 11, 12, 17, 69, 70, 71, 114, 115, 116] fun K k1109 => ?_
               simp; repeat refine ai ?_
               refine kc [se 1 chosen, (2, .ptr 0 0), se 5 z4u5, (11, .ptr 1 0), se 12 y772u12, se 17 ((z120u17 + 1) : Int), se 69 x20.measures, se 70 ((x20.measures.length : Int) : Int), se 71 z4u71, se 114 x1025.notes, se 115 ((x1025.notes.length : Int) : Int), se 116 z120u116] [.w 24 v, .w 47 x768] (k1109 _ ?_)
               exact k1089 _ ⟨_, hg, Sub.rm [0, 1]⟩
            ·refine AWp.skip ?_
             exact k1089 _ ⟨_, hg, Sub.rm [0, 1]⟩
           ·rintro s' ⟨y1088u17, hg, hs⟩
            unfold lawOssias_j126 at hg
            refine AWp.sub hs ?_
            obtain ⟨g1110, hg⟩ := grd_some hg
            unfold inI at g1110
            refine AWp.regF hV none [1, 2, 5, 11, 12, 17, 69, 70, 71, 114, 115, 116] fun K k1111 => ?_
            simp; repeat refine ai ?_
            refine kc [se 1 chosen, (2, .ptr 0 0), se 5 z4u5, (11, .ptr 1 0), se 12 y772u12, se 17 y1088u17, se 69 x20.measures, se 70 ((x20.measures.length : Int) : Int), se 71 z4u71, se 114 x1025.notes, se 115 ((x1025.notes.length : Int) : Int), se 116 ((z120u116 + 1) : Int)] [.w 24 v, .w 47 x768] (k1111 _ ?_)
            exact k1028 _ _ (oij hg).symm (Sub.rm [0, 1])
          ·refine AWp.exit ?_
           cases hx1083 _ (oij hg).symm; have hg := hq1081; try dsimp only at hg
           exact k1024 _ ⟨_, hg, Sub.rm [0, 1]⟩
         ·rintro s' ⟨y1023u17, hg, hs⟩
          unfold lawOssias_j119 at hg
          refine AWp.sub hs ?_
          obtain ⟨y1115u5, hx1116, hg⟩ := bnd_some hg
          unfold lawOssias_r128 at hx1116
          refine AWp.mid (t := ⟨[se 1 chosen, (2, .ptr 0 0), se 5 y1115u5, se 69 x20.measures, se 70 ((x20.measures.length : Int) : Int), se 71 z4u71], [.w 24 v]⟩) (fun _ k1117 => ?_) ?_
          ·rcases ifb_o hx1116 with ⟨c1118, hx1116⟩ | ⟨c1118, hx1116⟩
           ·refine AWp.regF hV (some []) [1, 2, 5, 69, 70, 71] fun K k1119 => ?_
            simp [c1118]; repeat refine ai ?_
            cases hx1116; exact k1119 _ (k1117 _ (Sub.rm [0]))
           ·refine AWp.regF hV (some [143, 144, 145, 146, 147]) [1, 2, 5, 69, 70, 71] fun K k1120 => ?_
            simp [c1118]; repeat refine ai ?_
            cases hx1116; exact k1120 _ (k1117 _ (Sub.rm [0]))
          ·exact k767 _ ⟨_, hg, Sub.rm [0]⟩
       ·rintro s' ⟨y766u5, hg, hs⟩
        unfold lawOssias_j88 at hg
        refine AWp.sub hs ?_
        obtain ⟨g1121, hg⟩ := grd_some hg
        unfold inI at g1121
        refine AWp.regF hV none [1, 2, 5, 69, 70, 71] fun K k1122 => ?_
        simp; repeat refine ai ?_
        refine kc [se 1 chosen, (2, .ptr 0 0), se 5 y766u5, se 69 x20.measures, se 70 ((x20.measures.length : Int) : Int), se 71 ((z4u71 + 1) : Int)] [.w 24 v] (k1122 _ ?_)
        exact k46 _ _ (oij hg).symm (Sub.rm [0])
      ·refine AWp.exit ?_
       cases hx761 _ (oij hg).symm; have hg := hq759; try dsimp only at hg
       exact k44 _ ⟨_, hg, Sub.rm []⟩
     ·rintro s' ⟨y43u5, hg, hs⟩
      unfold lawOssias_j3 at hg
      refine AWp.sub hs ?_
      refine AWp.rS hV none [4] fun K k1126 => ?_
      simp; repeat refine ai ?_
      refine kc [se 4 y43u5] [] (k1126 _ ?_)
      refine AWp.ret ?_
      cases hg; exact hQ _ _ (.inl rfl) rt
end
end Go.Proofs.YtjfkfkjkbgiciaaGreatDoor
namespace Go.Proofs.YtjfkfkjkbgiciaaGreatDoor
open Go Go.Eva Enc
@[reducible] def onnPZPlB : Onn := ⟨False⟩
attribute [local instance] rndX onnPZPlB
theorem oss_lo {c : List Int} (hc : c.length ≤ 1048576) (hok : chosenOk c = true) {m : Measure} (hm : m.notes.length ≤ 1048576) : loopO (lawOssias_s109 c m) (0, 0) = some (played c m.notes) := by
  rw [← lo_played hok]
  refine loop_foldl (l := m.notes) (lo1 c) (fun z => z) (fun k w z hw => ?_) (fun z => by unfold lawOssias_s109; dsimp only; rw [ifb_f' (by simp)]) 0
  have hk := lt_of_get hw
  unfold lawOssias_s109 lawOssias_j110
  dsimp only
  rw [ifb_t' (by simpa using hk), bnd_eq (at_eq hw), loop_foldl (l := c) (fun z n => if w.ossia = n ∧ (z = 0 ∨ n < z) then n else z) (fun z => z) (fun j n y hn => by
    have hj := lt_of_get hn
    unfold lawOssias_s116 lawOssias_j117 lawOssias_r118
    dsimp only
    rw [ifb_t' (by simpa using hj), bnd_eq (at_eq hn)]
    by_cases h : w.ossia = n
    · rw [ifb_t' (by simp [h])]
      by_cases h1 : y = 0
      · rw [ifb_t' (by simp [h1]), bnd_pure, ifb_t' rfl, grdI (by omega), if_pos ⟨h, .inl h1⟩]; rfl
      · rw [ifb_f' (by simp [h1]), bnd_pure]
        by_cases h2 : n < y
        · rw [ifb_t' (by simp [h2]), grdI (by omega), if_pos ⟨h, .inr h2⟩]; rfl
        · rw [ifb_f' (by simp [h2]), grdI (by omega), if_neg (fun h' => by rcases h'.2 with h3 | h3; exact h1 h3; exact h2 h3)]; rfl
    · rw [ifb_f' (by simp [h]), bnd_pure, ifb_f' rfl, grdI (by omega), if_neg (fun h' => h h'.1)]; rfl) (fun y => by unfold lawOssias_s116; dsimp only; rw [ifb_f' (by simp)]) z, bnd_pure, grdI (by omega)]
  rfl
theorem oss_scan {c : List Int} {m : Measure} (hm : m.notes.length ≤ 1048576) : loopO (lawOssias_s125 (ossM c m) (played c m.notes) m) (0, 0) = some (.inr ((ossM c m).notes.length : Int)) := by
  have hn : (ossM c m).notes = m.notes.filter (ossP (played c m.notes)) := rfl
  generalize ossM c m = x at *
  generalize played c m.notes = p at *
  have := loop_fold (σ := Int) (st := fun z k => (z, k)) (step := lawOssias_s125 x p m) (l := m.notes) (fun z w => if ossP p w = true then .inl (z + 1) else .inl z) (fun _ => .inr (x.notes.length : Int)) (fun k z => z = (((m.notes.take k).filter (ossP p)).length : Int)) (fun k w z hw hz => by
    have hk := lt_of_get hw
    have hlen : ((m.notes.take k).filter (ossP p)).length ≤ k := Nat.le_trans (List.length_filter_le _ _) (by rw [List.length_take]; omega)
    unfold lawOssias_s125 lawOssias_j126 lawOssias_r127
    dsimp only
    rw [ifb_t' (by simpa using hk), bnd_eq (at_eq hw)]
    by_cases h : w.ossia = p
    · have hp : ossP p w = true := by simp [ossP, h]
      have ha := filter_at (ossP p) hw hp
      rw [← hn] at ha
      have hlt := lt_of_get ha
      rw [ifb_t' (by simp [h]), ifb_f' (by simp; omega), hz, bnd_eq (at_eq ha), bnd_pure, ifb_f' (by simp), grdI (by omega), grdI (by omega), if_pos hp]
      rfl
    · have hp : ¬ ossP p w = true := by simp [ossP, h]
      rw [ifb_f' (by simp [h]), grdI (by omega), if_neg hp]; rfl) (fun k w z z' hw hz hf => by
    rw [filter_take (ossP p) hw]
    by_cases hp : ossP p w = true
    · rw [if_pos hp] at hf ⊢
      injection hf with hf; subst hf; rw [hz]; simp
    · rw [if_neg hp] at hf ⊢
      injection hf with hf; subst hf; exact hz) (fun z hz => by
    unfold lawOssias_s125
    dsimp only
    rw [ifb_f' (by simp), hz, List.take_length, hn]) 0 (by simp)
  rw [this, foldS_inl (fun (z : Int) w => if ossP p w = true then z + 1 else z) _ _ (fun z w _ => by split <;> rfl)]
theorem lawOssias_eq {v : View} {c : List Int} (hv : Sm v) (hc : c.length ≤ 1048576) : lawOssias v c = some true := by
  unfold lawOssias
  rw [headP_eq, bnd_pure]
  unfold lawOssias_r1
  rw [usable_eq hv, bnd_pure]
  by_cases hu : few v ∧ viewOk v
  rotate_left
  · rw [ifb_t' (by simp only [Bool.not_eq_true', decide_eq_false_iff_not]; exact hu), bnd_pure, ifb_t' rfl]
  rw [ifb_f' (by simp [hu])]
  by_cases h20 : 20 < c.length
  · rw [ifb_t' (by simp; omega), bnd_pure, ifb_t' rfl]
  rw [ifb_f' (by simp; omega), r18Chosen_eq hc, bnd_pure, bnd_pure]
  by_cases hok : chosenOk c = true
  rotate_left
  · rw [ifb_t' (by simpa using hok)]
  have hvo := viewOk_oss hu.2 c
  have hso := sm_oss hv c
  rw [ifb_f' (by simp [hok]), pOssia_eq hv hc, if_pos ⟨hu.2, hok⟩, bnd_pure]
  dsimp only
  rw [pOssia_eq hso hc, if_pos ⟨hvo, hok⟩, bnd_pure, ossV_twice hok]
  dsimp only
  unfold lawOssias_r2
  have hlen : (ossV c v).measures.length = v.measures.length := by simp [ossV]
  rw [ifb_f' (by simp), ifb_f' (by simp), r14Same_eq hso, bnd_pure, ifb_f' (by simp), bnd_pure, ifb_f' (by simp [hlen])]
  have hl := hv.1
  rw [loop_fold (σ := Bool) (st := fun z k => (z, k)) (step := lawOssias_s87 v c (ossV c v)) (l := v.measures) (fun z _ => .inl z) (fun _ => .inr true) (fun _ z => z = true) (fun k m z hm hz => by
    have hk := lt_of_get hm
    have hq := hv.2 m (List.mem_of_getElem? hm)
    have hx : (ossV c v).measures[k]? = some (ossM c m) := by
      unfold ossV; dsimp only; rw [List.getElem?_map, hm]; rfl
    subst hz
    unfold lawOssias_s87 lawOssias_j89
    dsimp only
    rw [ifb_t' (by simp [hlen]; omega), bnd_eq (at_eq hx), bnd_eq (at_eq hm), oss_lo hc hok hq, bnd_pure, bnd_eq (at_eq hm), oss_scan hq, bnd_pure]
    dsimp only
    unfold lawOssias_j119 lawOssias_j88 lawOssias_r128
    rw [ifb_t' rfl, bnd_pure, grdI (by omega)]
    simp) (fun k m z z' hm hz hf => by injection hf with hf; subst hf; exact hz) (fun z hz => by
    subst hz
    unfold lawOssias_s87; dsimp only; rw [ifb_f' (by simp [hlen])]) true rfl, foldS_inl (fun (z : Bool) (m : Measure) => z) _ _ (fun _ _ _ => rfl), bnd_pure]
  rfl
end Go.Proofs.YtjfkfkjkbgiciaaGreatDoor
