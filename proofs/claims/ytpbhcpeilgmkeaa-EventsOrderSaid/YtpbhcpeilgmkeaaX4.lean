/-
  The evaluator, the printed walks and the plain laws, part 4 of 12.
-/
import Derived.Test.YtpbhcpeilgmkeaaX3
import Derived.ProofKit
import Derived.ChangeArms
import Derived.Deep.Slices
import Derived.Carry
import Derived.Test.YtpbhcpeilgmkeaaRows
set_option linter.all false
set_option linter.unnecessarySimpa false
set_option linter.deprecated false
set_option linter.unusedVariables false
set_option linter.unusedSimpArgs false
set_option linter.unusedSectionVars false

/-
  Eva, part Pc: a region that draws may be looked at in another order of its operations.
-/
set_option linter.all false
namespace Go.Eva
open Go Go.RowKit
variable [Drw]

def posIn (p : List Nat) (j : Nat) : Nat := p.findIdx (· == j)
def reOp (p : List Nat) (o : Oper) : Oper := { o with after := (o.after.toList.map fun e => { e with on := posIn p e.on }).toArray, guard := o.guard.map fun x => (posIn p x.1, x.2) }
def permOps (p : List Nat) (ops : List Oper) : List Oper := p.filterMap fun i => (ops[i]?).map (reOp p)
def permOk (p : List Nat) (n : Nat) : Bool := decide (p.length = n) && ((List.range n).all fun i => p.contains i) && (p.all fun i => decide (i < n)) && (List.range n).all fun i => posIn p (p.getD i 0) == i

theorem posIn_inj {p : List Nat} {i j : Nat} (hi : i ∈ p) (h : posIn p i = posIn p j) : i = j := by
  have h1 : posIn p i < p.length := List.findIdx_lt_length_of_exists ⟨i, hi, by simp⟩
  have e1 : p[posIn p i] = i := by
    have := List.findIdx_getElem (p := fun x => x == i) (xs := p) (w := h1)
    exact LawfulBEq.eq_of_beq this
  have h2 : posIn p j < p.length := h ▸ h1
  have e2 : p[posIn p j] = j := by
    have := List.findIdx_getElem (p := fun x => x == j) (xs := p) (w := h2)
    exact LawfulBEq.eq_of_beq this
  rw [← e1, ← e2]; congr 1

theorem permOps_len {p : List Nat} {ops : List Oper} (hp : ∀ i ∈ p, i < ops.length) : permOps p ops = p.pmap (fun i h => reOp p (ops[i]'h)) hp := by
  unfold permOps
  generalize hq : p = q at *
  have : ∀ (r : List Nat) (hr : ∀ i ∈ r, i < ops.length), (r.filterMap fun i => (ops[i]?).map (reOp q)) = r.pmap (fun i h => reOp q (ops[i]'h)) hr := by
    intro r
    induction r with
    | nil => intro _; rfl
    | cons x r ih =>
      intro hr
      have hx := hr x (by simp)
      rw [List.filterMap_cons]
      simp only [List.getElem?_eq_getElem hx, Option.map_some, List.pmap_cons]
      rw [ih]
  exact this q hp

theorem permOk_spec {p : List Nat} {n : Nat} (h : permOk p n = true) : p.length = n ∧ (∀ i, i < n → i ∈ p) ∧ (∀ i ∈ p, i < n) ∧ ∀ i (hi : i < p.length), posIn p p[i] = i := by
  simp only [permOk, Bool.and_eq_true, decide_eq_true_eq, List.all_eq_true, List.mem_range, List.contains_iff_mem, beq_iff_eq] at h
  obtain ⟨⟨⟨h1, h2⟩, h3⟩, h4⟩ := h
  refine ⟨h1, h2, h3, fun i hi => ?_⟩
  have := h4 i (by omega)
  rwa [List.getD_eq_getElem?_getD, List.getElem?_eq_getElem hi] at this

section
variable {P : Program} {ops : List Oper} {Q : Exit → Act → World → Prop} {p : List Nat}

theorem perm_get (hp : permOk p ops.length = true) {i : Nat} {o : Oper} (ho : ops[i]? = some o) : (permOps p ops)[posIn p i]? = some (reOp p o) := by
  replace hp := permOk_spec hp
  have hi := (List.getElem?_eq_some_iff.1 ho).1
  have hb := hp.2.2.1
  rw [permOps_len hb]
  have h1 : posIn p i < p.length := List.findIdx_lt_length_of_exists ⟨i, hp.2.1 i hi, by simp⟩
  have e1 : p[posIn p i] = i := by
    have := List.findIdx_getElem (p := fun x => x == i) (xs := p) (w := h1)
    exact LawfulBEq.eq_of_beq this
  rw [List.getElem?_eq_getElem (by simpa using h1)]
  simp only [List.getElem_pmap, Option.some.injEq]
  congr 1
  have := (List.getElem?_eq_some_iff.1 ho).2
  rw [← this]; congr 1
theorem permOps_length (hp : permOk p ops.length = true) : (permOps p ops).length = ops.length := by
  replace hp := permOk_spec hp
  rw [permOps_len hp.2.2.1]; simp [hp.1]
theorem posIn_lt (hp : permOk p ops.length = true) {i : Nat} : posIn p i < ops.length ↔ i < ops.length := by
  replace hp := permOk_spec hp
  constructor
  · intro h
    have h1 : posIn p i < p.length := by omega
    have := List.findIdx_getElem (p := fun x => x == i) (xs := p) (w := h1)
    have := LawfulBEq.eq_of_beq this
    exact hp.2.2.1 i (this ▸ List.getElem_mem _)
  · intro h
    have : posIn p i < p.length := List.findIdx_lt_length_of_exists ⟨i, hp.2.1 i h, by simp⟩
    omega

theorem perm_ready (hp : permOk p ops.length = true) {listed listed' : Array Bool} (h1 : listed.size = ops.length) (h2 : listed'.size = ops.length) (hl : ∀ i, listed'.getD (posIn p i) false = listed.getD i false) {i : Nat} :
    posIn p i ∈ Region.ready .any (permOps p ops).toArray listed' ↔ i ∈ Region.ready .any ops.toArray listed := by
  rw [mem_ready, mem_ready]
  by_cases hi : i < ops.length
  · have hi' := (posIn_lt hp).2 hi
    rw [getD_tf h1 hi, getD_tf h2 hi', hl]
    have ho : ops[i]? = some ops[i] := List.getElem?_eq_getElem hi
    have ho' := perm_get hp ho
    simp only [List.getElem?_toArray, ho, ho', Option.some.injEq, exists_eq_left']
    refine and_congr_right fun _ => ?_
    unfold reOp
    simp only [List.mem_toArray, List.mem_map, Array.mem_toList_iff]
    constructor
    · intro h e he hb
      rw [← hl]
      exact h _ ⟨e, he, rfl⟩ hb
    · rintro h _ ⟨e, he, rfl⟩ hb
      show listed'.getD (posIn p e.on) false = true
      rw [hl]; exact h e he hb
  · have hi' : ¬ posIn p i < ops.length := fun h => hi ((posIn_lt hp).1 h)
    constructor
    · rintro ⟨_, o, ho, _⟩
      have := (Array.getElem?_eq_some_iff.1 ho).1
      simp [permOps_length hp] at this; omega
    · rintro ⟨_, o, ho, _⟩
      have := (Array.getElem?_eq_some_iff.1 ho).1
      simp at this; omega

theorem perm_yielded (hp : permOk p ops.length = true) (tmps : Array Value) (j : Nat) : yielded (permOps p ops).toArray tmps (posIn p j) = yielded ops.toArray tmps j := by
  unfold yielded
  by_cases hj : j < ops.length
  · have ho : ops[j]? = some ops[j] := List.getElem?_eq_getElem hj
    have ho' := perm_get hp ho
    simp only [List.getElem?_toArray, ho, ho', reOp, Option.bind_some]
  · have hj' : ¬ posIn p j < ops.length := fun h => hj ((posIn_lt hp).1 h)
    simp only [List.getElem?_toArray]
    rw [List.getElem?_eq_none (by rw [permOps_length hp]; omega), List.getElem?_eq_none (by omega)]

theorem wpAny_perm (hp : permOk p ops.length = true) : ∀ (fuel : Nat) (listed listed' : Array Bool) (a : Act) (w : World), listed.size = ops.length → listed'.size = ops.length → (∀ i, listed'.getD (posIn p i) false = listed.getD i false) →
    wpAny P .any (permOps p ops).toArray Q fuel listed' a w → wpAny P .any ops.toArray Q fuel listed a w := by
  have hnil : ∀ {listed listed' : Array Bool}, listed.size = ops.length → listed'.size = ops.length → (∀ i, listed'.getD (posIn p i) false = listed.getD i false) → (Region.ready .any (permOps p ops).toArray listed' = [] ↔ Region.ready .any ops.toArray listed = []) := by
    intro listed listed' h1 h2 hl
    rw [List.eq_nil_iff_forall_not_mem, List.eq_nil_iff_forall_not_mem]
    constructor
    · exact fun h i hi => h _ ((perm_ready hp h1 h2 hl).2 hi)
    · intro h i hi
      have hlt : i < ops.length := by have := ready_lt hi; rwa [permOps_length hp] at this
      have hpp : permOk p ops.length = true := hp
      replace hp := permOk_spec hp
      -- i is the place of something
      have hex : ∃ j, j < ops.length ∧ posIn p j = i := by
        have hip : i < p.length := by omega
        exact ⟨p[i], hp.2.2.1 _ (List.getElem_mem _), hp.2.2.2 i hip⟩
      obtain ⟨j, hj, rfl⟩ := hex
      exact h j ((perm_ready hpp h1 h2 hl).1 hi)
  intro fuel
  induction fuel with
  | zero =>
    intro listed listed' a w h1 h2 hl h
    exact ⟨(hnil h1 h2 hl).1 h.1, h.2⟩
  | succ fuel ih =>
    intro listed listed' a w h1 h2 hl h
    refine ⟨fun h0 => h.1 ((hnil h1 h2 hl).2 h0), fun i hi => ?_⟩
    have hlt := ready_lt hi
    have hw := h.2 _ ((perm_ready hp h1 h2 hl).2 hi)
    have ho : ops[i]? = some ops[i] := List.getElem?_eq_getElem hlt
    have ho' := perm_get hp ho
    have hstep : wpOp P ops.toArray Q i (wpAny P .any (permOps p ops).toArray Q fuel (listed'.setIfInBounds (posIn p i) true)) a w := by
      unfold wpOp at hw ⊢
      simp only [List.getElem?_toArray, ho, ho'] at hw ⊢
      have hwant : Region.wanted (reOp p ops[i]) (yielded (permOps p ops).toArray a.tmps) = Region.wanted ops[i] (yielded ops.toArray a.tmps) := by
        unfold Region.wanted
        cases hg : ops[i].guard with
        | none => simp [reOp, hg]
        | some x => obtain ⟨j, b⟩ := x; simp only [reOp, hg, Option.map_some, perm_yielded hp]
      rw [hwant] at hw
      split
      · rename_i hh; rw [if_pos hh] at hw; exact hw
      · rename_i hh; rw [if_neg hh] at hw; exact hw
    refine wpOp_mono (fun a w hk => ih _ _ a w (by simp [h1]) (by simp [h2]) (fun k => ?_) hk) hstep
    rw [getD_set h1 hlt, getD_set h2 ((posIn_lt hp).2 hlt), hl]
    by_cases hk : k = i
    · subst hk; simp
    · rw [if_neg hk, if_neg]
      intro e
      replace hp := permOk_spec hp
      exact hk (posIn_inj (hp.2.1 i hlt) e.symm).symm
end

section
variable {P : Program} {V : Env} {w0 : World} {I0 : Imm} {n : Nat} {md : Way} {ops : List Oper} {Q : Exit → St → Prop} {K : St → Prop} {s : St}
def drawOk3 (ops : List Oper) (n1 : Nat) (F : List Nat) : Bool := lexOk ops && tailOk2 ops n1 F && floatOk3 ops n1 F && pureOk ops n1 && decide (n1 ≤ ops.length)
/-- A region that draws, looked at in the order p. -/
theorem evalDraw_ok3 (hV : VOk P V) (hm : P.follows .mixedOrders = true) {Q : Exit → Act → World → Prop} (hK : ∀ s a w, K s → Rel w0 I0 n s a w → Q .normal a w) {id : Nat} {a : Act} {w : World} (p : List Nat) (n1 : Nat) (F : List Nat) (hp : permOk p ops.length = true) (hd : drawOk3 (permOps p ops) n1 F = true) (hptr : floatPtr s.t (permOps p ops) n1 F = true) (hrel : Rel w0 I0 n s a w)
    (h : evalPure V n (permOps p ops) md s.l ((permOps p ops).take n1) 0 s.t [] fun tm news => evalSeq V n (permOps p ops) md ((permOps p ops).drop n1) ⟨tm, s.l ++ news.map (·.2)⟩ K) : (Code.region id ops.toArray true).wp P Q a w := by
  simp only [drawOk3, Bool.and_eq_true, decide_eq_true_eq] at hd
  obtain ⟨⟨⟨⟨hlex, htail⟩, hfl⟩, hpure⟩, hn1⟩ := hd
  simp only [floatOk3, Bool.and_eq_true] at hfl
  obtain ⟨⟨hf1, hf2⟩, hf3⟩ := hfl
  obtain ⟨rs, hrs, hend⟩ := evalPure_recs _ _ _ _ h
  refine wp_region_any hm ?_
  have hwp := draw3_wp (Q := Q) (K := K) hV hK hlex htail hf2 hpure hn1 hrel (B := false) (indep_fl (fun f hf => (float_at hf2 hf).1) hn1 hf1 hptr (fun f o hf ho => ((float_at hf2 hf).2 o ho).1) (by simpa using hrs)) (.inr fun i o hi ho => by
    have := List.all_eq_true.1 hf3 i (List.mem_range.2 (List.getElem?_eq_some_iff.1 ho).1)
    rw [ho] at this
    simp only [Bool.or_eq_true, decide_eq_true_eq] at this
    exact this.resolve_left (by omega)) hrs hend
  have hz : ∀ (N k : Nat), (Array.replicate N false).getD k false = false := fun N k => by
    rw [Array.getD_eq_getD_getElem?]
    cases hx : (Array.replicate N false)[k]? with
    | none => rfl
    | some b => have := Array.getElem?_eq_some_iff.1 hx; simp at this; simp [← this.2]
  have := wpAny_perm hp ops.length (Array.replicate ops.length false) (Array.replicate ops.length false) _ _ (by simp) (by simp) (fun i => by rw [hz, hz]) (by rw [permOps_length hp] at hwp; exact hwp)
  simpa using this
end
end Go.Eva

/-
  Eva, part T: environments; how a seat's texts use all this.
-/
namespace Go.Eva
open Go Go.RowKit
variable [Drw]

abbrev Spec := List D → Option (D × Prop)
def cfind : List (FuncId × Spec) → CEnv
  | [], _, _ => none
  | (g, S) :: r, f, ds => if g = f then S ds else cfind r f ds
structure SpecOk (P : Program) (f : FuncId) (S : Spec) : Prop where
  enters : Enters P f
  con : ∀ ds r ob, S ds = some (r, ob) → ob → PureCon P f ds r
def Specs (P : Program) : List (FuncId × Spec) → Prop
  | [] => True
  | (f, S) :: r => SpecOk P f S ∧ Specs P r
theorem Specs.ok {P : Program} : ∀ {tab : List (FuncId × Spec)}, Specs P tab → COk P (cfind tab)
  | [], _, f, ds, r, ob, h, _ => by simp [cfind] at h
  | (g, S) :: tab, hs, f, ds, r, ob, h, hob => by
    obtain ⟨h1, h2⟩ := hs
    simp only [cfind] at h
    split at h
    · rename_i hg; subst hg; exact ⟨h1.enters, h1.con ds r ob h hob⟩
    · exact Specs.ok h2 f ds r ob h hob
def lfFind (tab : List (Nat × List Lf)) : TypeId → Option (List Lf) := fun t => (tab.find? fun p => p.1 == t).map (·.2)

/-- A region that draws, with its pure part's length. -/
def drawOk (ops : List Oper) (n1 : Nat) : Bool := lexOk ops && tailOk ops n1 && pureOk ops n1 && decide (n1 ≤ ops.length)

section
variable {P : Program} {V : Env} {w0 : World} {I0 : Imm} {n : Nat} {md : Way} {Q : Exit → St → Prop} {s : St} {y : Code} {ops : List Oper} {K : St → Prop}
theorem evalDraw_ok' (hV : VOk P V) (hm : P.follows .mixedOrders = true) {Q : Exit → Act → World → Prop} (hK : ∀ s a w, K s → Rel w0 I0 n s a w → Q .normal a w) {id : Nat} {s : St} {a : Act} {w : World} (n1 : Nat) (hd : drawOk ops n1 = true) (hrel : Rel w0 I0 n s a w)
    (h : evalPure V n ops md s.l (ops.take n1) 0 s.t [] fun tm news => evalSeq V n ops md (ops.drop n1) ⟨tm, s.l ++ news.map (·.2)⟩ K) : (Code.region id ops.toArray true).wp P Q a w := by
  simp only [drawOk, Bool.and_eq_true, decide_eq_true_eq] at hd
  obtain ⟨⟨⟨hlex, htail⟩, hpure⟩, hn1⟩ := hd
  obtain ⟨rs, hrs, hend⟩ := evalPure_recs _ _ _ _ h
  exact draw_core hV hm hK hlex htail hpure hn1 hrel hrs hend
/-- With floaters. -/
def drawOk2 (ops : List Oper) (n1 : Nat) (F : List Nat) : Bool := lexOk ops && tailOk2 ops n1 F && floatOk ops n1 F && pureOk ops n1 && decide (n1 ≤ ops.length)
theorem evalDraw_ok2 (hV : VOk P V) (hm : P.follows .mixedOrders = true) {Q : Exit → Act → World → Prop} {K : St → Prop} (hK : ∀ s a w, K s → Rel w0 I0 n s a w → Q .normal a w) {id : Nat} {s : St} {a : Act} {w : World} (n1 : Nat) (F : List Nat) (hd : drawOk2 ops n1 F = true) (hrel : Rel w0 I0 n s a w)
    (h : evalPure V n ops md s.l (ops.take n1) 0 s.t [] fun tm news => evalSeq V n ops md (ops.drop n1) ⟨tm, s.l ++ news.map (·.2)⟩ K) : (Code.region id ops.toArray true).wp P Q a w := by
  simp only [drawOk2, Bool.and_eq_true, decide_eq_true_eq] at hd
  obtain ⟨⟨⟨⟨hlex, htail⟩, hfl⟩, hpure⟩, hn1⟩ := hd
  obtain ⟨rs, hrs, hend⟩ := evalPure_recs _ _ _ _ h
  exact draw2ucore hV hm hK hlex htail hfl hpure hn1 hrel hrs hend
theorem AWp.drawFm (hV : VOk P V) (hm : P.follows .mixedOrders = true) (n1 : Nat) (F : List Nat) {id : Nat} (hd : drawOk2 ops n1 F = true)
    (h : evalPure V n ops md s.l (ops.take n1) 0 s.t [] fun tm news => evalSeq V n ops md (ops.drop n1) ⟨tm, s.l ++ news.map (·.2)⟩ (Q .normal)) : AWp P w0 I0 n (.region id ops.toArray true) s Q := fun a w hr =>
  evalDraw_ok2 (Q := fun e a' w' => ∃ s', Q e s' ∧ Rel w0 I0 n s' a' w') (K := Q .normal) hV hm (fun s _ _ h1 h2 => ⟨s, h1, h2⟩) n1 F hd hr h
theorem AWp.drawF (hV : VOk P V) (hm : P.follows .mixedOrders = true) (n1 : Nat) (F : List Nat) {id : Nat} (hd : drawOk2 ops n1 F = true)
    (h : evalPure V n ops none s.l (ops.take n1) 0 s.t [] fun tm news => evalSeq V n ops none (ops.drop n1) ⟨tm, s.l ++ news.map (·.2)⟩ (Q .normal)) : AWp P w0 I0 n (.region id ops.toArray true) s Q := fun a w hr =>
  evalDraw_ok2 (Q := fun e a' w' => ∃ s', Q e s' ∧ Rel w0 I0 n s' a' w') (K := Q .normal) hV hm (fun s _ _ h1 h2 => ⟨s, h1, h2⟩) n1 F hd hr h
theorem AWp.drawKm (hV : VOk P V) (hm : P.follows .mixedOrders = true) (n1 : Nat) {id : Nat} (hd : drawOk ops n1 = true)
    (h : evalPure V n ops md s.l (ops.take n1) 0 s.t [] fun tm news => evalSeq V n ops md (ops.drop n1) ⟨tm, s.l ++ news.map (·.2)⟩ (Q .normal)) : AWp P w0 I0 n (.region id ops.toArray true) s Q := fun a w hr =>
  evalDraw_ok' (Q := fun e a' w' => ∃ s', Q e s' ∧ Rel w0 I0 n s' a' w') (K := Q .normal) hV hm (fun s _ _ h1 h2 => ⟨s, h1, h2⟩) n1 hd hr h
theorem AWp.drawK (hV : VOk P V) (hm : P.follows .mixedOrders = true) (n1 : Nat) {id : Nat} (hd : drawOk ops n1 = true)
    (h : evalPure V n ops none s.l (ops.take n1) 0 s.t [] fun tm news => evalSeq V n ops none (ops.drop n1) ⟨tm, s.l ++ news.map (·.2)⟩ (Q .normal)) : AWp P w0 I0 n (.region id ops.toArray true) s Q := fun a w hr =>
  evalDraw_ok' (Q := fun e a' w' => ∃ s', Q e s' ∧ Rel w0 I0 n s' a' w') (K := Q .normal) hV hm (fun s _ _ h1 h2 => ⟨s, h1, h2⟩) n1 hd hr h
theorem AWp.seqDK (hV : VOk P V) (hm : P.follows .mixedOrders = true) (n1 : Nat) {id : Nat} (hd : drawOk ops n1 = true)
    (h : evalPure V n ops none s.l (ops.take n1) 0 s.t [] fun tm news => evalSeq V n ops none (ops.drop n1) ⟨tm, s.l ++ news.map (·.2)⟩ (fun s' => AWp P w0 I0 n y s' Q)) : AWp P w0 I0 n ((Code.region id ops.toArray true).seq y) s Q :=
  AWp.seq (AWp.drawK hV hm n1 hd h)

/-- What is forgotten: slots, and objects at the end that nothing names. -/
def T.lows (k : Nat) : T → Bool
  | .ptr id _ => decide (id < k)
  | .row id => decide (id < k)
  | .rptr id _ _ => decide (id < k)
  | .map id => decide (id < k)
  | .tup ts => ts.all fun t => match t with | .d _ => true | _ => false
  | .cond _ t => match t with | .d _ => true | _ => false
  | _ => true
def AO.lows (k : Nat) : AO → Bool
  | .var _ cs => cs.all (T.lows k)
  | _ => true

theorem RdT.cut {I : Imm} {m : Nat → Value} {l : List AO} {k : Nat} (hk : k ≤ l.length) {v : Value} {t : T} (h : RdT I m l v t) (hb : t.lows k = true) : RdT I m (l.take k) v t := by
  have hget : ∀ id, id < k → (l.take k)[id]? = l[id]? := fun id hid => by rw [List.getElem?_take, if_pos hid]
  have hv : ∀ id, id < k → isVar (l.take k) id = isVar l id := fun id hid => by unfold isVar; rw [hget id hid]
  have hr : ∀ id, id < k → isRow (l.take k) id = isRow l id := fun id hid => by unfold isRow; rw [hget id hid]
  have data : ∀ {v : Value} {t : T}, RdT I m l v t → (match t with | .d _ => true | _ => false) = true → RdT I m (l.take k) v t := by
    intro v t h hb
    cases h <;> simp at hb
    exact .d _ _ (by assumption)
  cases h with
  | undef => exact .undef _
  | d v x hx => exact .d _ _ hx
  | nils s => exact .nils _
  | ptr id b off h1 h2 => simp [T.lows] at hb; exact .ptr id b off ((hv id hb).trans h1) h2
  | eptr b o size els q off val h1 h2 h3 h4 => exact .eptr b o size els q off val h1 h2 h3 h4
  | row A n c id h1 h2 => simp [T.lows] at hb; exact .row A n c id (by rw [List.length_take]; omega) (fun hl => h2 ((hr id hb).symm.trans hl))
  | rptr a id q off h1 h2 => simp [T.lows] at hb; exact .rptr a id q off (by rw [List.length_take]; omega) (fun e size els hl => h2 e size els (by rw [hget id hb] at hl; exact hl))
  | map r id h1 h2 => simp [T.lows] at hb; exact .map r id (by rw [List.length_take]; omega) (fun hl => h2 ((hr id hb).symm.trans hl))
  | tup vs ts h1 h2 =>
    refine .tup vs ts h1 fun i v t hv ht => data (h2 i v t hv ht) ?_
    simp only [T.lows, List.all_eq_true] at hb
    exact hb t (List.mem_of_getElem? ht)
  | cond v pc t h1 h2 => exact .cond v pc t (fun hp => data (h1 hp) hb) h2

theorem WRel.cut {w0 w : World} {I0 I : Imm} {m : Nat → Value} {l : List AO} {k : Nat} (h : WRel w0 I0 w I m l) (hk : k ≤ l.length) (hb : (l.take k).all (AO.lows k) = true) : WRel w0 I0 w I m (l.take k) := by
  have hget : ∀ id, id < k → (l.take k)[id]? = l[id]? := fun id hid => by rw [List.getElem?_take, if_pos hid]
  have hlt : ∀ {id : Nat} {o : AO}, (l.take k)[id]? = some o → id < k ∧ l[id]? = some o := by
    intro id o ho
    have : id < k := by have := (List.getElem?_eq_some_iff.1 ho).1; rw [List.length_take] at this; omega
    exact ⟨this, by rw [← hget id this]; exact ho⟩
  refine ⟨h.below, h.sat, h.ext, fun id o ho => ?_, fun i j b hij hi hj => ?_⟩
  · obtain ⟨h1, h2⟩ := hlt ho
    have := h.obj id o h2
    cases o with
    | var ty cs =>
      obtain ⟨b, vs, q1, q2, q3, q4, q5, q6⟩ := this
      refine ⟨b, vs, q1, q2, q3, q4, fun i x t hx ht => ⟨(q5 i x t hx ht).1.cut hk ?_, (q5 i x t hx ht).2⟩, q6⟩
      have := List.all_eq_true.1 hb _ (List.mem_of_getElem? ho)
      simp only [AO.lows, List.all_eq_true] at this
      exact this t (List.mem_of_getElem? ht)
    | dead => trivial
    | row e size els => exact this
    | frow e size els => exact this
    | map ks vs => exact this
    | fmap ks vs => exact this
    | iter ks vs done => exact this
  · obtain ⟨o1, q1, d1⟩ := alive_iff.1 hi
    obtain ⟨o2, q2, d2⟩ := alive_iff.1 hj
    exact h.sep i j b hij (alive_iff.2 ⟨o1, (hlt q1).2, d1⟩) (alive_iff.2 ⟨o2, (hlt q2).2, d2⟩)

def forgets (s : Tm) : Tm → Prop
  | [] => True
  | (i, t) :: r => get s i = t ∧ forgets s r
theorem forgets_get {s : Tm} : ∀ {r : Tm}, forgets s r → ∀ k, get r k = .undef ∨ get r k = get s k
  | [], _, k => .inl rfl
  | (i, t) :: r, h, k => by
    simp only [get]
    by_cases hi : i = k
    · subst hi; rw [if_pos rfl]; exact .inr h.1.symm
    · rw [if_neg hi]; exact forgets_get h.2 k
theorem get_below {k : Nat} : ∀ {r : Tm}, r.all (fun p => T.lows k p.2) = true → ∀ j, T.lows k (get r j) = true
  | [], _, j => rfl
  | (i, t) :: r, h, j => by
    simp only [List.all_cons, Bool.and_eq_true] at h
    simp only [get]
    split
    · exact h.1
    · exact get_below h.2 j

/-- Slots are forgotten, and the objects from k on. -/
theorem Sub.cut (k : Nat) {t' : Tm} (hk : k ≤ s.l.length) (hb : (s.l.take k).all (AO.lows k) = true) (ht : t'.all (fun p => T.lows k p.2) = true) (hf : forgets s.t t') : Sub s ⟨t', s.l.take k⟩ := by
  intro w0 I0 n a w hr
  obtain ⟨h1, h2, I, m, h3, h4⟩ := hr
  refine ⟨h1, h2, I, m, h3.cut hk hb, fun j => ?_⟩
  rcases forgets_get hf j with h | h
  · rw [h]; exact .undef _
  · rw [h]
    exact (h4 j).cut hk (by rw [← h]; exact get_below ht j)
theorem Sub.cut' (k : Nat) {t' : Tm} {l' : List AO} (hl : l' = s.l.take k) (hk : k ≤ s.l.length) (hb : (s.l.take k).all (AO.lows k) = true) (ht : t'.all (fun p => T.lows k p.2) = true) (hf : forgets s.t t') : Sub s ⟨t', l'⟩ := by
  subst hl; exact Sub.cut k hk hb ht hf
end
end Go.Eva

/-
  Eva, part U: loop heads. Objects get new numbers ('Sub.ren'); a nil slice turns to an empty own row ('Sub.adopt').
-/
namespace Go.Eva
open Go Go.RowKit
variable [Drw]

def idx (id : Nat) : List Nat → Nat → Option Nat
  | [], _ => none
  | x :: xs, k => if x = id then some k else idx id xs (k + 1)
theorem idx_get {id : Nat} : ∀ {xs : List Nat} {k j : Nat}, idx id xs k = some j → k ≤ j ∧ xs[j - k]? = some id
  | [], k, j, h => by simp [idx] at h
  | x :: xs, k, j, h => by
    simp only [idx] at h
    split at h
    · rename_i hx; cases h; simp [hx]
    · obtain ⟨h1, h2⟩ := idx_get h
      refine ⟨by omega, ?_⟩
      rw [show j - k = (j - (k + 1)) + 1 by omega]; simpa using h2

def T.data : T → Bool
  | .d _ => true
  | _ => false
def T.ren (ids : List Nat) : T → T
  | .ptr id off => match idx id ids 0 with | some k => .ptr k off | none => .undef
  | .row id => match idx id ids 0 with | some k => .row k | none => .undef
  | .rptr id k off => match idx id ids 0 with | some j => .rptr j k off | none => .undef
  | .map id => match idx id ids 0 with | some k => .map k | none => .undef
  | .tup ts => if ts.all T.data then .tup ts else .undef
  | .cond pc t => if t.data then .cond pc t else .undef
  | t => t
def AO.ren (ids : List Nat) : AO → AO
  | .var ty cs => .var ty (cs.map (T.ren ids))
  | o => o
def renL (ids : List Nat) (l : List AO) : List AO := ids.map fun id => ((l[id]?).getD .dead).ren ids

theorem renL_get {ids : List Nat} {l : List AO} {k id : Nat} (h : ids[k]? = some id) : (renL ids l)[k]? = some (((l[id]?).getD .dead).ren ids) := by simp [renL, h]
theorem AO.ren_isVar (ids : List Nat) (o : AO) : (o.ren ids).isVar = o.isVar := by cases o <;> rfl
theorem AO.ren_isRow (ids : List Nat) (o : AO) : (o.ren ids).isRow = o.isRow := by cases o <;> rfl

theorem nodup_inj {ids : List Nat} (h : ids.Nodup) : ∀ {i j a : Nat}, ids[i]? = some a → ids[j]? = some a → i = j := by
  induction ids with
  | nil => intro i j a hi; simp at hi
  | cons x xs ih =>
    intro i j a hi hj
    rw [List.nodup_cons] at h
    rcases i with _ | i <;> rcases j with _ | j
    · rfl
    · simp at hi hj; subst hi; exact absurd (List.mem_of_getElem? hj) h.1
    · simp at hi hj; subst hj; exact absurd (List.mem_of_getElem? hi) h.1
    · simp at hi hj; rw [ih h.2 hi hj]
section
variable {P : Program} {V : Env} {w0 : World} {I0 : Imm} {n : Nat} {Q : Exit → St → Prop} {s : St}

theorem data_rd {I : Imm} {m m' : Nat → Value} {l l' : List AO} {v : Value} {t : T} (h : RdT I m l v t) (hb : t.data = true) : RdT I m' l' v t := by
  cases h <;> simp [T.data] at hb
  exact .d _ _ (by assumption)

theorem ren_isVar {ids : List Nat} {l : List AO} {k id : Nat} (h : ids[k]? = some id) : isVar (renL ids l) k = isVar l id := by
  unfold isVar; rw [renL_get h]; simp only [Option.map_some, Option.getD_some, AO.ren_isVar]
  cases l[id]? <;> rfl
theorem ren_isRow {ids : List Nat} {l : List AO} {k id : Nat} (h : ids[k]? = some id) : isRow (renL ids l) k = isRow l id := by
  unfold isRow; rw [renL_get h]; simp only [Option.map_some, Option.getD_some, AO.ren_isRow]
  cases l[id]? <;> rfl
theorem ren_row {ids : List Nat} {l : List AO} {k id e size : Nat} {els : List D} (h : ids[k]? = some id) (hr : (renL ids l)[k]? = some (.row e size els) ∨ (renL ids l)[k]? = some (.frow e size els)) : l[id]? = some (.row e size els) ∨ l[id]? = some (.frow e size els) := by
  rw [renL_get h] at hr
  cases hl : l[id]? with
  | none => rw [hl] at hr; simp [AO.ren] at hr
  | some o => rw [hl] at hr; cases o <;> simp_all [AO.ren]

theorem RdT.ren {I : Imm} {m m' : Nat → Value} {l : List AO} {ids : List Nat} (hm : ∀ k id, ids[k]? = some id → m' k = m id) {v : Value} {t : T} (h : RdT I m l v t) : RdT I m' (renL ids l) v (t.ren ids) := by
  have hlt : ∀ {k id : Nat}, ids[k]? = some id → k < (renL ids l).length := fun h => by rw [show (renL ids l).length = ids.length by simp [renL]]; exact (List.getElem?_eq_some_iff.1 h).1
  cases h with
  | undef => exact .undef _
  | d v x hx => exact .d _ _ hx
  | nils s => exact .nils _
  | ptr id b off h1 h2 =>
    simp only [T.ren]
    split
    · rename_i k hk
      have hk := (idx_get hk).2; simp only [Nat.sub_zero] at hk
      exact .ptr k b off ((ren_isVar hk).trans h1) ((hm k id hk).trans h2)
    · exact .undef _
  | eptr b o size els q off val h1 h2 h3 h4 => exact .eptr b o size els q off val h1 h2 h3 h4
  | row A n c id h1 h2 =>
    simp only [T.ren]
    split
    · rename_i k hk
      have hk := (idx_get hk).2; simp only [Nat.sub_zero] at hk
      exact .row A n c k (hlt hk) fun hl => (hm k id hk).trans (h2 ((ren_isRow hk).symm.trans hl))
    · exact .undef _
  | rptr a id q off h1 h2 =>
    simp only [T.ren]
    split
    · rename_i k hk
      have hk := (idx_get hk).2; simp only [Nat.sub_zero] at hk
      refine .rptr a k q off (hlt hk) fun e size els hl => ?_
      obtain ⟨b, n, c, q1, q2⟩ := h2 e size els (ren_row hk hl)
      exact ⟨b, n, c, (hm k id hk).trans q1, q2⟩
    · exact .undef _
  | map r id h1 h2 =>
    simp only [T.ren]
    split
    · rename_i k hk
      have hk := (idx_get hk).2; simp only [Nat.sub_zero] at hk
      exact .map r k (hlt hk) fun hl => (hm k id hk).trans (h2 ((ren_isRow hk).symm.trans hl))
    · exact .undef _
  | tup vs ts h1 h2 =>
    simp only [T.ren]
    split
    · rename_i hb
      exact .tup vs ts h1 fun i v t hv ht => data_rd (h2 i v t hv ht) (List.all_eq_true.1 hb t (List.mem_of_getElem? ht))
    · exact .undef _
  | cond v pc t h1 h2 =>
    simp only [T.ren]
    split
    · rename_i hb
      exact .cond v pc t (fun hp => data_rd (h1 hp) hb) h2
    · exact .undef _

theorem WRel.ren {w0 w : World} {I0 I : Imm} {m : Nat → Value} {l : List AO} {ids : List Nat} (h : WRel w0 I0 w I m l) (hnd : ids.Nodup) : WRel w0 I0 w I (fun k => m ((ids[k]?).getD 0)) (renL ids l) := by
  have hm : ∀ (k id : Nat), ids[k]? = some id → (fun k : Nat => m ((ids[k]?).getD 0)) k = m id := fun k id hk => by simp [hk]
  have hget : ∀ {k : Nat} {o : AO}, (renL ids l)[k]? = some o → ∃ id, ids[k]? = some id := fun {k o} hk => by
    cases hi : ids[k]? with
    | none => simp [renL, hi] at hk
    | some id => exact ⟨id, rfl⟩
  have hal : ∀ {k id : Nat}, ids[k]? = some id → alive (renL ids l) k = alive l id := fun hk => by unfold alive; rw [ren_isVar hk, ren_isRow hk]
  refine ⟨h.below, h.sat, h.ext, fun k o ho => ?_, fun i j b hij hi hj => ?_⟩
  · obtain ⟨id, hk⟩ := hget ho
    have hg := renL_get (l := l) hk
    rw [ho] at hg
    cases hl : l[id]? with
    | none => rw [hl] at hg; simp [AO.ren] at hg; subst hg; trivial
    | some o' =>
      rw [hl] at hg; simp only [Option.getD_some, Option.some.injEq] at hg
      have ho' := h.obj id o' hl
      show ObjOk _ _ _ _ _ (m ((ids[k]?).getD 0)) o
      rw [hk, hg]; simp only [Option.getD_some]
      cases o' with
      | dead => trivial
      | var ty cs =>
        obtain ⟨b, vs, q1, q2, q3, q4, q5, q6⟩ := ho'
        refine ⟨b, vs, q1, q2, q3, by simp [q4], fun i x t hx ht => ?_, q6⟩
        rw [List.getElem?_map] at ht
        cases hc : cs[i]? with
        | none => rw [hc] at ht; simp at ht
        | some t0 =>
          rw [hc] at ht; simp at ht; subst ht
          exact ⟨(q5 i x t0 hx hc).1.ren hm, (q5 i x t0 hx hc).2⟩
      | row e size els => exact ho'
      | frow e size els => exact ho'
      | map ks vs => exact ho'
      | fmap ks vs => exact ho'
      | iter ks vs done => exact ho'
  · obtain ⟨o1, q1, _⟩ := alive_iff.1 hi
    obtain ⟨o2, q2, _⟩ := alive_iff.1 hj
    obtain ⟨a, ha⟩ := hget q1
    obtain ⟨c, hc⟩ := hget q2
    rw [hal ha] at hi; rw [hal hc] at hj
    have hne : a ≠ c := fun e => by
      subst e
      have h1 := List.getElem?_eq_some_iff.1 ha
      have h2 := List.getElem?_eq_some_iff.1 hc
      obtain ⟨h1, h1'⟩ := h1; obtain ⟨h2, h2'⟩ := h2
      exact hij (nodup_inj hnd ha hc)
    simp only [ha, hc, Option.getD_some]
    exact h.sep a c b hne hi hj

def forgetsR (ids : List Nat) (s : Tm) : Tm → Prop
  | [] => True
  | (i, t) :: r => (get s i).ren ids = t ∧ forgetsR ids s r
theorem forgetsR_get {ids : List Nat} {s : Tm} : ∀ {r : Tm}, forgetsR ids s r → ∀ k, get r k = .undef ∨ get r k = (get s k).ren ids
  | [], _, k => .inl rfl
  | (i, t) :: r, h, k => by
    simp only [get]
    by_cases hi : i = k
    · subst hi; rw [if_pos rfl]; exact .inr h.1.symm
    · rw [if_neg hi]; exact forgetsR_get h.2 k

/-- The objects 'ids', in this order, are those of the new state; all slots not named are forgotten. -/
theorem Sub.ren (ids : List Nat) {t' : Tm} {l' : List AO} (hnd : ids.Nodup) (hl : renL ids s.l = l') (hf : forgetsR ids s.t t') : Sub s ⟨t', l'⟩ := by
  subst hl
  intro w0 I0 n a w hr
  obtain ⟨h1, h2, I, m, h3, h4⟩ := hr
  refine ⟨h1, h2, I, _, h3.ren hnd, fun j => ?_⟩
  rcases forgetsR_get hf j with h | h
  · rw [h]; exact .undef _
  · rw [h]; exact (h4 j).ren fun k id hk => by simp [hk]

theorem Sub.trans {s s' s'' : St} (h : Sub s s') (k : Sub s' s'') : Sub s s'' := fun _ _ _ _ _ hr => k _ _ _ _ _ (h _ _ _ _ _ hr)

/-- A nil slice in the slot j turns to an empty own row. -/
theorem Sub.adopt (j e size : Nat) {z : Nat} (hj : get s.t j = .nils z) : Sub s ⟨(j, .row s.l.length) :: s.t, s.l ++ [.row e size []]⟩ := by
  intro w0 I0 n a w hr
  obtain ⟨h1, h2, I, m, h3, h4⟩ := hr
  let m' : Nat → Value := fun k => if k = s.l.length then .slice none 0 0 else m k
  have hlt : ∀ k, k < s.l.length → m' k = m k := fun k hk => by simp only [m']; rw [if_neg (by omega)]
  have hV : ∀ id, id < s.l.length → isVar (s.l ++ [.row e size []]) id = isVar s.l id := fun id hid => by unfold isVar; rw [List.getElem?_append_left hid]
  have hR : ∀ id, id < s.l.length → isRow (s.l ++ [.row e size []]) id = isRow s.l id := fun id hid => by unfold isRow; rw [List.getElem?_append_left hid]
  have hle : Le I m s.l I m' (s.l ++ [.row e size []]) := by
    refine ⟨.refl I, by simp, fun id hid hv => ⟨(hV id hid).trans hv, hlt id hid⟩, fun id hid hv => ⟨(hR id hid).symm.trans hv, hlt id hid⟩, fun id e' s' els hid hl => ⟨els, ?_⟩⟩
    rwa [List.getElem?_append_left hid] at hl
  have hnew : m' s.l.length = .slice none 0 0 := by simp [m']
  refine ⟨h1, h2, I, m', ⟨h3.below, h3.sat, h3.ext, fun id o ho => ?_, fun i k b hik hi hk => ?_⟩, fun k => ?_⟩
  · rcases Nat.lt_or_ge id s.l.length with hid | hid
    · rw [List.getElem?_append_left hid] at ho
      have := h3.obj id o ho
      rw [hlt id hid]
      cases o with
      | dead => trivial
      | var ty cs =>
        obtain ⟨b, vs, q1, q2, q3, q4, q5, q6⟩ := this
        exact ⟨b, vs, q1, q2, q3, q4, fun i x t hx ht => ⟨(q5 i x t hx ht).1.mono hle, (q5 i x t hx ht).2⟩, q6⟩
      | row e size els => exact this
      | frow e size els => exact this
      | map ks vs => exact this
      | fmap ks vs => exact this
      | iter ks vs done => exact this
    · rw [List.getElem?_append_right hid] at ho
      have h0 : id - s.l.length = 0 := by
        cases hq : id - s.l.length with
        | zero => rfl
        | succ q => rw [hq] at ho; simp at ho
      rw [h0] at ho; simp at ho; subst ho
      have : id = s.l.length := by omega
      subst this
      rw [hnew]
      exact ⟨[], ⟨by simp, .inl ⟨rfl, rfl⟩⟩, by simp, by simp, by simp [own]⟩
  · intro hb
    have al : ∀ q, alive (s.l ++ [.row e size []]) q = true → (q < s.l.length ∧ alive s.l q = true) ∨ q = s.l.length := fun q hq => by
      rcases Nat.lt_or_ge q s.l.length with h | h
      · refine .inl ⟨h, ?_⟩; unfold alive at hq ⊢; rwa [hV q h, hR q h] at hq
      · obtain ⟨o, ho, _⟩ := alive_iff.1 hq
        have := (List.getElem?_eq_some_iff.1 ho).1
        simp at this; right; omega
    rcases al i hi with ⟨i1, i2⟩ | rfl
    · rcases al k hk with ⟨k1, k2⟩ | rfl
      · rw [hlt i i1] at hb; rw [hlt k k1]; exact h3.sep i k b hik i2 k2 hb
      · rw [hnew]; simp [own]
    · rw [hnew] at hb; simp [own] at hb
  · simp only [get]
    by_cases hk : j = k
    · subst hk
      rw [if_pos rfl]
      have := h4 j
      rw [hj] at this
      generalize a.tmps.getD j undef = v at this
      cases this
      exact .row none 0 0 _ (by simp) fun _ => hnew
    · rw [if_neg hk]; exact (h4 k).mono hle
end
end Go.Eva

/-
  Eva, part V: data of Lean's own types; contracts over them.
-/
namespace Go.Eva
open Go Go.RowKit

class Enc (α : Type) where
  enc : α → D
  dec : D → α
  size : Nat
  dec_enc : ∀ a, dec (enc a) = a
  len : ∀ a, (enc a).cells.length = size
  ones : ∀ a, ∀ x ∈ (enc a).cells, x.one = true
open Enc

instance : Enc Int := ⟨fun n => .int .i64 n, fun d => match d with | .int _ n => n | _ => 0, 1, fun _ => rfl, fun _ => rfl, by simp [D.cells, D.one]⟩
instance : Enc Bool := ⟨fun n => .bool n, fun d => match d with | .bool n => n | _ => false, 1, fun _ => rfl, fun _ => rfl, by simp [D.cells, D.one]⟩
instance : Enc ByteArray := ⟨fun n => .str n, fun d => match d with | .str n => n | _ => ⟨#[]⟩, 1, fun _ => rfl, fun _ => rfl, by simp [D.cells, D.one]⟩
theorem map_dec_enc {α : Type} [Enc α] (xs : List α) : (xs.map (enc : α → D)).map dec = xs := by
  induction xs with
  | nil => rfl
  | cons x xs ih => simp only [List.map_cons, ih, dec_enc]
theorem map_dec_comp {α : Type} [Enc α] (xs : List α) : xs.map ((dec : D → α) ∘ (enc : α → D)) = xs := by rw [← List.map_map, map_dec_enc]
instance {α : Type} [Enc α] : Enc (List α) := ⟨fun xs => .slice (size α) (xs.map enc), fun d => match d with | .slice _ els => els.map dec | _ => [], 1, map_dec_enc, fun _ => rfl, by simp [D.cells, D.one]⟩
/-- A function value. -/
structure Fn where
  f : FuncId
instance : Enc Fn := ⟨fun n => .fn n.f, fun d => match d with | .fn f => ⟨f⟩ | _ => ⟨0⟩, 1, fun _ => rfl, fun _ => rfl, by simp [D.cells, D.one]⟩

theorem enc_int (n : Int) : enc n = .int .i64 n := rfl
theorem enc_bool (b : Bool) : enc b = .bool b := rfl
theorem enc_str (b : ByteArray) : enc b = .str b := rfl
theorem enc_fn (b : Fn) : enc b = .fn b.f := rfl
theorem enc_list {α : Type} [Enc α] (xs : List α) : enc xs = .slice (size α) (xs.map enc) := rfl
theorem dec_int (k : IntKind) (n : Int) : dec (.int k n) = n := rfl
theorem dec_bool (b : Bool) : dec (.bool b) = b := rfl
theorem dec_str (b : ByteArray) : dec (.str b) = b := rfl
theorem dec_fn (f : FuncId) : dec (.fn f) = Fn.mk f := rfl
theorem dec_list {α : Type} [Enc α] (s : Nat) (els : List D) : (dec (.slice s els) : List α) = els.map dec := rfl
theorem size_int : size Int = 1 := rfl
theorem size_str : size ByteArray = 1 := rfl
theorem take_enc {α : Type} [Enc α] (xs : List α) (k : Nat) : (xs.map (enc : α → D)).take k = (xs.take k).map enc := by simp
theorem drop_enc {α : Type} [Enc α] (xs : List α) (k : Nat) : (xs.map (enc : α → D)).drop k = (xs.drop k).map enc := by simp
theorem elAt_enc {α : Type} [Enc α] {xs : List α} {k : Nat} {x : α} (h : xs[k]? = some x) : elAt (xs.map enc) k = enc x := by simp [elAt, h]

def spec0 (r : D) : Spec := fun ds => match ds with | [] => some (r, True) | _ => none
def spec1 {α : Type} [Enc α] (pre : α → Prop) (f : α → D) : Spec := fun ds => match ds with | [a] => some (f (dec a), enc (dec a : α) = a ∧ pre (dec a)) | _ => none
def spec2 {α β : Type} [Enc α] [Enc β] (pre : α → β → Prop) (f : α → β → D) : Spec := fun ds => match ds with | [a, b] => some (f (dec a) (dec b), enc (dec a : α) = a ∧ enc (dec b : β) = b ∧ pre (dec a) (dec b)) | _ => none
def spec3 {α β γ : Type} [Enc α] [Enc β] [Enc γ] (pre : α → β → γ → Prop) (f : α → β → γ → D) : Spec := fun ds => match ds with | [a, b, c] => some (f (dec a) (dec b) (dec c), enc (dec a : α) = a ∧ enc (dec b : β) = b ∧ enc (dec c : γ) = c ∧ pre (dec a) (dec b) (dec c)) | _ => none

theorem range1 : List.range 1 = [0] := rfl
theorem range2 : List.range 2 = [0, 1] := rfl
theorem range3 : List.range 3 = [0, 1, 2] := rfl
theorem range4 : List.range 4 = [0, 1, 2, 3] := rfl
variable [Drw]
section
variable {P : Program} {g : FuncId}
theorem SpecOk.of0 {r : D} (he : Enters P g) (h : PureCon P g [] r) : SpecOk P g (spec0 r) := ⟨he, fun ds r ob hs hob => by
  unfold spec0 at hs; split at hs
  · cases hs; exact h
  · cases hs⟩
theorem SpecOk.of1 {α : Type} [Enc α] {pre : α → Prop} {f : α → D} (he : Enters P g) (h : ∀ a, pre a → PureCon P g [enc a] (f a)) : SpecOk P g (spec1 pre f) := ⟨he, fun ds r ob hs hob => by
  unfold spec1 at hs; split at hs
  · cases hs
    have := h _ hob.2; rw [hob.1] at this; exact this
  · cases hs⟩
theorem SpecOk.of2 {α β : Type} [Enc α] [Enc β] {pre : α → β → Prop} {f : α → β → D} (he : Enters P g) (h : ∀ a b, pre a b → PureCon P g [enc a, enc b] (f a b)) : SpecOk P g (spec2 pre f) := ⟨he, fun ds r ob hs hob => by
  unfold spec2 at hs; split at hs
  · cases hs
    have := h _ _ hob.2.2; rw [hob.1, hob.2.1] at this; exact this
  · cases hs⟩
theorem SpecOk.of3 {α β γ : Type} [Enc α] [Enc β] [Enc γ] {pre : α → β → γ → Prop} {f : α → β → γ → D} (he : Enters P g) (h : ∀ a b c, pre a b c → PureCon P g [enc a, enc b, enc c] (f a b c)) : SpecOk P g (spec3 pre f) := ⟨he, fun ds r ob hs hob => by
  unfold spec3 at hs; split at hs
  · cases hs
    have := h _ _ _ hob.2.2.2; rw [hob.1, hob.2.1, hob.2.2.1] at this; exact this
  · cases hs⟩
end

/-- The end of a branch of an 'if' in front of more code. -/
theorem thenQ_normal {K : St → Prop} {Q : Exit → St → Prop} {s : St} : thenQ K Q .normal s = K s := rfl
theorem thenQ_ret {K : St → Prop} {Q : Exit → St → Prop} {s : St} : thenQ K Q .ret s = Q .ret s := rfl
theorem thenQ_exit {K : St → Prop} {Q : Exit → St → Prop} {s : St} {i : Nat} : thenQ K Q (.exit i) s = Q (.exit i) s := rfl

section
variable {P : Program} {w0 : World} {I0 : Imm} {n : Nat} {Q : Exit → St → Prop} {s : St} {x y z : Code}
/-- Of the slots those named alone. -/
def restr (live : List Nat) (t : Tm) : Tm := live.map fun k => (k, get t k)
theorem restr_get (t : Tm) (k : Nat) : ∀ (live : List Nat), get (restr live t) k = .undef ∨ get (restr live t) k = get t k
  | [] => .inl rfl
  | j :: live => by
    simp only [restr, List.map_cons, get]
    by_cases h : j = k
    · rw [if_pos h, h]; exact .inr rfl
    · rw [if_neg h]; exact restr_get t k live
theorem Sub.restr (live : List Nat) : Sub s ⟨restr live s.t, s.l⟩ := by
  intro w0 I0 n a w hr
  obtain ⟨h1, h2, I, m, h3, h4⟩ := hr
  refine ⟨h1, h2, I, m, h3, fun j => ?_⟩
  rcases restr_get s.t j live with h | h
  · rw [h]; exact .undef _
  · rw [h]; exact h4 j
theorem AWp.seqKL {V : Env} (hV : VOk P V) (live : List Nat) {id : Nat} {ops : List Oper} (h : evalSeq V n ops none ops s (fun s' => AWp P w0 I0 n y ⟨Eva.restr live s'.t, s'.l⟩ Q)) : AWp P w0 I0 n ((Code.region id ops.toArray false).seq y) s Q :=
  AWp.seqK hV (evalSeq_mono (fun s' hs => AWp.sub (Sub.restr live) hs) _ _ h)
theorem AWp.seqDKL {V : Env} (hV : VOk P V) (hm : P.follows .mixedOrders = true) (n1 : Nat) (live : List Nat) {id : Nat} {ops : List Oper} (hd : drawOk ops n1 = true)
    (h : evalPure V n ops none s.l (ops.take n1) 0 s.t [] fun tm news => evalSeq V n ops none (ops.drop n1) ⟨tm, s.l ++ news.map (·.2)⟩ (fun s' => AWp P w0 I0 n y ⟨Eva.restr live s'.t, s'.l⟩ Q)) : AWp P w0 I0 n ((Code.region id ops.toArray true).seq y) s Q :=
  AWp.seq (AWp.mono (Q := fun e s' => e = .normal ∧ AWp P w0 I0 n y ⟨Eva.restr live s'.t, s'.l⟩ Q)
    (AWp.mono (AWp.drawK (Q := fun e s' => match e with | .normal => AWp P w0 I0 n y ⟨Eva.restr live s'.t, s'.l⟩ Q | _ => False) hV hm n1 hd h) fun e s' hq => by
      cases e <;> first | exact ⟨rfl, hq⟩ | exact hq.elim)
    fun e s' ⟨he, hq⟩ => by subst he; exact AWp.sub (Sub.restr live) hq)
theorem AWp.seqDFL {V : Env} (hV : VOk P V) (hm : P.follows .mixedOrders = true) (n1 : Nat) (F : List Nat) (live : List Nat) {id : Nat} {ops : List Oper} (hd : drawOk2 ops n1 F = true)
    (h : evalPure V n ops none s.l (ops.take n1) 0 s.t [] fun tm news => evalSeq V n ops none (ops.drop n1) ⟨tm, s.l ++ news.map (·.2)⟩ (fun s' => AWp P w0 I0 n y ⟨Eva.restr live s'.t, s'.l⟩ Q)) : AWp P w0 I0 n ((Code.region id ops.toArray true).seq y) s Q :=
  AWp.seq (AWp.mono (Q := fun e s' => e = .normal ∧ AWp P w0 I0 n y ⟨Eva.restr live s'.t, s'.l⟩ Q)
    (AWp.mono (AWp.drawF (Q := fun e s' => match e with | .normal => AWp P w0 I0 n y ⟨Eva.restr live s'.t, s'.l⟩ Q | _ => False) hV hm n1 F hd h) fun e s' hq => by
      cases e <;> first | exact ⟨rfl, hq⟩ | exact hq.elim)
    fun e s' ⟨he, hq⟩ => by subst he; exact AWp.sub (Sub.restr live) hq)
/-- For 'simp': only the state is looked at. -/
theorem AWp.congrS {s s' : St} (h : s = s') : AWp P w0 I0 n x s Q = AWp P w0 I0 n x s' Q := by rw [h]
theorem AWp.seqC {c : Operand} {b : Bool} (hc : boolOf (evT s.t c) = some b) (h1 : b = true → AWp P w0 I0 n x s (thenQ (fun s' => AWp P w0 I0 n z s' Q) Q)) (h2 : b = false → AWp P w0 I0 n y s (thenQ (fun s' => AWp P w0 I0 n z s' Q) Q)) : AWp P w0 I0 n ((Code.cond c x y).seq z) s Q :=
  AWp.seq (AWp.cond hc h1 h2)
/-- An 'if' without an 'else' in front of more code. -/
theorem AWp.seqI {c : Operand} {b : Bool} (hc : boolOf (evT s.t c) = some b) (h1 : b = true → AWp P w0 I0 n x s (thenQ (fun s' => AWp P w0 I0 n z s' Q) Q)) (h2 : b = false → AWp P w0 I0 n z s Q) : AWp P w0 I0 n ((Code.cond c x .skip).seq z) s Q :=
  AWp.seq (AWp.cond hc h1 fun h => AWp.skip (h2 h))
end
end Go.Eva

/-
  Eva, part Z: maps of Lean's own data (keys int, in the order of putting).
-/
namespace Go.Eva
open Go Enc
variable {α : Type}
/-- A map's entry: its key, its value, as data. -/
def kE (p : Int × α) : D := .int .i64 p.1
def vE [Enc α] (p : Int × α) : D := enc p.2
def midx (n : Int) (x : List (Int × α)) : Option Nat := x.findIdx? fun p => decide (n = p.1)
def mput (x : List (Int × α)) (n : Int) (v : α) : List (Int × α) := match midx n x with
  | some j => x.set j (n, v)
  | none => x ++ [(n, v)]
def mdel (x : List (Int × α)) (n : Int) : List (Int × α) := match midx n x with
  | some j => x.eraseIdx j
  | none => x
def mgetD (x : List (Int × α)) (n : Int) (z : α) : α := match midx n x with
  | some j => ((x[j]?).map (·.2)).getD z
  | none => z
def mhas (x : List (Int × α)) (n : Int) : Bool := (midx n x).isSome
def mkeys (x : List (Int × α)) : List Int := x.map (·.1)

theorem keyIdx_add (n : Int) : ∀ (x : List (Int × α)) (i : Nat), keyIdx n (x.map kE) i = (midx n x).map (· + i)
  | [], i => rfl
  | p :: x, i => by
    have ih := keyIdx_add n x (i + 1)
    simp only [List.map_cons, kE, keyIdx, midx, List.findIdx?_cons]
    by_cases h : n = p.1
    · simp [h]
    · simp only [h, if_false, decide_false]
      change keyIdx n (x.map kE) (i + 1) = _
      rw [ih]
      unfold midx
      cases x.findIdx? (fun p => decide (n = p.1)) with
      | none => rfl
      | some j => simp; omega
theorem keyIdx_E (n : Int) (x : List (Int × α)) : keyIdx n (x.map kE) 0 = midx n x := by
  rw [keyIdx_add]; cases midx n x <;> simp
theorem keysInt_E (x : List (Int × α)) : keysInt .i64 (x.map kE) = true := by
  simp [keysInt, kE]
theorem keysInt_nil (k : IntKind) : keysInt k [] = true := rfl
theorem midx_some {n : Int} {x : List (Int × α)} {j : Nat} (h : midx n x = some j) : ∃ v, x[j]? = some (n, v) := by
  unfold midx at h
  obtain ⟨hj, h1, h2⟩ := List.findIdx?_eq_some_iff_getElem.1 h
  simp at h1
  exact ⟨x[j].2, by rw [List.getElem?_eq_getElem hj]; simp [h1]⟩
theorem set_kE {n : Int} {x : List (Int × α)} {j : Nat} (h : midx n x = some j) (v : α) : (x.set j (n, v)).map kE = x.map kE := by
  obtain ⟨u, hu⟩ := midx_some h
  rw [List.map_set]
  apply List.ext_getElem?
  intro i
  by_cases hi : j = i
  · subst hi; rw [List.getElem?_set_self' , List.getElem?_map, hu]; rfl
  · rw [List.getElem?_set_ne hi]
/-- What d stands for reads back as d. (A name of its own: simp cannot take back a side condition that holds by 'rfl' steps alone.) -/
def IsE (α : Type) [Enc α] (d : D) : Prop := enc (dec d : α) = d
theorem isE_iff [Enc α] (d : D) : IsE α d ↔ enc (dec d : α) = d := ⟨fun h => h, fun h => h⟩
theorem put_E [Enc α] (n : Int) (x : List (Int × α)) (d : D) (hd : IsE α d) :
    putT.match_1 (fun _ => AO) (midx n x) (fun j => AO.map (x.map kE) ((x.map vE).set j d)) (fun _ => AO.map (x.map kE ++ [.int .i64 n]) (x.map vE ++ [d])) = AO.map ((mput x n (dec d)).map kE) ((mput x n (dec d)).map vE) := by
  unfold IsE at hd
  unfold mput
  cases h : midx n x with
  | none => simp [kE, vE, hd]
  | some j => simp only [set_kE h]; rw [List.map_set]; simp [vE, hd]
theorem erase_map {β : Type} (f : α → β) : ∀ (x : List α) (j : Nat), (x.map f).eraseIdx j = (x.eraseIdx j).map f
  | [], _ => by simp
  | p :: x, 0 => by simp
  | p :: x, j + 1 => by simp [erase_map f x j]
theorem del_E [Enc α] (n : Int) (x : List (Int × α)) :
    putT.match_1 (fun _ => AO) (midx n x) (fun j => AO.map ((x.map kE).eraseIdx j) ((x.map vE).eraseIdx j)) (fun _ => AO.map (x.map kE) (x.map vE)) = AO.map ((mdel x n).map kE) ((mdel x n).map vE) := by
  unfold mdel
  cases h : midx n x with
  | none => rfl
  | some j => simp [erase_map]
theorem elAt_vE [Enc α] {n : Int} {x : List (Int × α)} {j : Nat} (h : midx n x = some j) (z : α) : elAt (x.map vE) j = enc (mgetD x n z) := by
  obtain ⟨v, hv⟩ := midx_some h
  simp [elAt, mgetD, h, hv, vE]
theorem get_E [Enc α] (n : Int) (x : List (Int × α)) (z : D) (p : Prop) (hd : IsE α z) :
    putT.match_1 (fun _ => R) (midx n x) (fun j => (⟨.d (elAt (x.map vE) j), .none, p⟩ : R)) (fun _ => ⟨.d z, .none, p⟩) = ⟨.d (enc (mgetD x n (dec z))), .none, p⟩ := by
  unfold IsE at hd
  cases h : midx n x with
  | none => simp [mgetD, h, hd]
  | some j => simp only [elAt_vE h (dec z)]
theorem getok_E [Enc α] (n : Int) (x : List (Int × α)) (z : D) (p : Prop) (hd : IsE α z) :
    putT.match_1 (fun _ => R) (midx n x) (fun j => (⟨.d (.tup [elAt (x.map vE) j, .bool true]), .none, p⟩ : R)) (fun _ => ⟨.d (.tup [z, .bool false]), .none, p⟩) = ⟨.d (.tup [enc (mgetD x n (dec z)), .bool (mhas x n)]), .none, p⟩ := by
  unfold IsE at hd
  cases h : midx n x with
  | none => simp [mgetD, mhas, h, hd]
  | some j => simp only [elAt_vE h (dec z)]; simp [mhas, h]
theorem mkeys_E (x : List (Int × α)) : (x.map kE).map (dec : D → Int) = mkeys x := by
  simp [mkeys, kE, Function.comp_def, dec_int]
theorem mkeys_E' (x : List (Int × α)) : x.map ((dec : D → Int) ∘ kE) = mkeys x := by rw [← mkeys_E, List.map_map]
theorem mkeys_enc (x : List (Int × α)) : (mkeys x).map (enc : Int → D) = x.map kE := by
  simp [mkeys, kE, Function.comp_def, enc_int]
theorem range5 : List.range 5 = [0, 1, 2, 3, 4] := rfl
theorem range6 : List.range 6 = [0, 1, 2, 3, 4, 5] := rfl
theorem range7 : List.range 7 = [0, 1, 2, 3, 4, 5, 6] := rfl
theorem range8 : List.range 8 = [0, 1, 2, 3, 4, 5, 6, 7] := rfl
/-- A number of another kind than int. -/
structure IntK (k : IntKind) where
  n : Int
  deriving DecidableEq
instance {k : IntKind} : Enc (IntK k) := ⟨fun r => .int k r.n, fun d => match d with | .int _ n => ⟨n⟩ | _ => ⟨0⟩, 1, fun _ => rfl, fun _ => rfl, by simp [D.cells, D.one]⟩
theorem enc_intk {k : IntKind} (r : IntK k) : enc r = .int k r.n := rfl
theorem size_intk {k : IntKind} : Enc.size (IntK k) = 1 := rfl
theorem dec_intk {k j : IntKind} (n : Int) : (dec (.int j n) : IntK k) = ⟨n⟩ := rfl
theorem eta_intk {k : IntKind} (r : IntK k) : IntK.mk r.n = r := rfl
end Go.Eva

/-
  Eva, the frame: arguments of any world read as Lean's own data; from a contract to the row's lifted form.
-/
namespace Go.Eva
open Go Go.RowKit Enc Go.ChangeShapes Go.WideShapes
variable [Drw]
set_option linter.unusedSectionVars false
set_option linter.unusedSimpArgs false

open Classical in
/-- Whatever a world holds, taken as known for good. -/
noncomputable def allI (w : World) : Imm := ⟨fun b o => w.cell? ⟨b, o, none⟩, fun b => if h : ∃ es, MapAt w.heap[b]? es then some (Classical.choose h) else none⟩
theorem allI_sat (w : World) : SatI w (allI w) := ⟨fun _ _ _ h => h, fun b es h => by
  unfold allI at h
  simp only at h
  split at h
  · rename_i hx
    cases h
    exact Classical.choose_spec hx
  · cases h⟩
theorem allI_mp {w : World} {b : Nat} {es : ME} (h : MapAt w.heap[b]? es) : (allI w).mp b = some es := by
  have hx : ∃ es, MapAt w.heap[b]? es := ⟨es, h⟩
  unfold allI
  simp only
  rw [dif_pos hx]
  have hc := Classical.choose_spec hx
  have := hc.1.symm.trans h.1
  simp only [Option.some.injEq, Obj.map.injEq] at this
  rw [Prod.ext this.1 this.2]

theorem cells_nil (I : Imm) {cs : List Value} {n : Nat} (h : cs.length = n) : Cells I (cs.drop n) [] := by
  refine ⟨by simp [h], by simp, fun i v d _ hd => by simp at hd⟩
theorem cells_cons {I : Imm} {cs : List Value} {o s : Nat} {ys zs : List D} (h1 : Cells I ((cs.drop o).take s) ys) (h2 : Cells I (cs.drop (o + s)) zs) : Cells I (cs.drop o) (ys ++ zs) := by
  have e : cs.drop o = (cs.drop o).take s ++ cs.drop (o + s) := by rw [← List.drop_drop, List.take_append_drop]
  rw [e]
  obtain ⟨a1, a2, a3⟩ := h1
  obtain ⟨b1, b2, b3⟩ := h2
  refine ⟨by simp only [List.length_append, a1, b1], fun d hd => (List.mem_append.1 hd).elim (a2 d) (b2 d), fun i v d hv hd => ?_⟩
  by_cases hi : i < ys.length
  · rw [List.getElem?_append_left (by omega)] at hv
    rw [List.getElem?_append_left hi] at hd
    exact a3 i v d hv hd
  · rw [List.getElem?_append_right (by omega), a1] at hv
    rw [List.getElem?_append_right (by omega)] at hd
    exact b3 _ v d hv hd
theorem cells_one {I : Imm} {v : Value} {d : D} (hd : d.one = true) (h : Rd I v d) : Cells I [v] [d] :=
  ⟨rfl, by simpa using hd, fun i x y hx hy => by
    rcases i with _ | i
    · simp at hx hy; subst hx; subst hy; exact h
    · simp at hx⟩

theorem addr_add (b o k : Nat) : (⟨b, o, none⟩ : Addr).add k = ⟨b, o + k, none⟩ := by
  unfold Addr.add; split
  · rename_i h; subst h; rfl
  · rfl
/-- What lies in memory at type t reads as a value of α. -/
def Opens (P : Program) (t : TypeId) (α : Type) [Enc α] (good : α → Prop) : Prop :=
  ∀ (H : Type) (en : TypeId × Value → H) (w : World) (base : Nat) (spare : Nat → Bool) (held : Bool) (fuel : Nat) (cs : List Value) (x : DataW H × List MemPlace),
    DataW.trod en P w base spare held fuel t cs = some x → ∃ a : α, good a ∧ Cells (allI w) cs (enc a).cells
section
variable {P : Program} {t e : TypeId}
theorem opens_int (ht : P.underlying t = some (.int .i64)) : Opens P t Int fun n => -9223372036854775808 ≤ n ∧ n ≤ 9223372036854775807 := by
  intro H en w base spare held fuel cs x h
  obtain ⟨n, rfl, _, hw⟩ := DataW.trod_int ht h
  refine ⟨n, ?_, cells_one rfl (.int _ _)⟩
  simp only [Lit.wf, IntKind.has, IntKind.min, IntKind.max, IntKind.signed, IntKind.bits, Bool.and_eq_true, decide_eq_true_eq] at hw
  simp at hw
  omega
theorem opens_intk {k : IntKind} (ht : P.underlying t = some (.int k)) : Opens P t (IntK k) fun n => (Lit.int k n.n).wf = true := by
  intro H en w base spare held fuel cs x h
  obtain ⟨n, rfl, _, hw⟩ := DataW.trod_int ht h
  exact ⟨⟨n⟩, hw, cells_one rfl (.int _ _)⟩
theorem opens_bool (ht : P.underlying t = some .bool) : Opens P t Bool fun _ => True := by
  intro H en w base spare held fuel cs x h
  obtain ⟨n, rfl, _⟩ := DataW.trod_bool ht h
  exact ⟨n, trivial, cells_one rfl (.bool _)⟩
theorem opens_str (ht : P.underlying t = some .string) : Opens P t ByteArray fun s => s.size ≤ maxLen := by
  intro H en w base spare held fuel cs x h
  obtain ⟨n, rfl, _, hs⟩ := DataW.trod_string ht h
  exact ⟨n, hs, cells_one rfl (.str _)⟩
theorem opens_slice {α : Type} [Enc α] {good : α → Prop} (ht : P.underlying t = some (.slice e)) (hsz : P.cellsOf e = size α) (hpos : 0 < P.cellsOf e) (ho : Opens P e α good) : Opens P t (List α) fun l => l.length ≤ maxLen ∧ ∀ a ∈ l, good a := by
  intro H en w base spare held fuel cs x h
  have hpos' : 0 < size α := by rw [← hsz]; exact hpos
  rcases Go.Deep.open_slice ht h with ⟨rfl, _⟩ | ⟨a, len, cap, m, n, D0, Pl, rfl, _, hl, hm, hmm, _, hi⟩
  · exact ⟨[], ⟨Nat.zero_le _, by simp⟩, cells_one rfl (.slice0 _ _ _ (Nat.zero_le _))⟩
  · have hlm : len ≤ m := by rw [hmm]; split <;> omega
    rcases Nat.eq_zero_or_pos len with h0 | h0
    · subst h0
      exact ⟨[], ⟨Nat.zero_le _, by simp⟩, cells_one rfl (.slice0 _ _ _ hm)⟩
    · have hel : ∀ i, i < len → ∃ (y : α) (cs' : List Value), good y ∧ (∀ j, j < size α → w.cell? (a.add (i * size α + j)) = cs'[j]?) ∧ cs'.length = size α ∧ Cells (allI w) cs' (enc y).cells := fun i hil => by
        obtain ⟨cs', hc, ht'⟩ := hi i (by omega)
        obtain ⟨y, hy, hcs⟩ := ho H en w base spare held n cs' _ ht'
        rw [hsz] at hc
        obtain ⟨_, hcl, hat⟩ := World.cells?_some hc
        exact ⟨y, cs', hy, fun j hj => by rw [← hat j hj, Go.Deep.add_add], hcl, hcs⟩
      obtain ⟨b, off, spot⟩ := a
      have hspot : spot = none := by
        obtain ⟨y, cs', _, hat, hcl, _⟩ := hel 0 h0
        have h1 := hat 0 hpos'
        rw [List.getElem?_eq_getElem (by omega)] at h1
        simpa [Addr.add] using World.cell?_spot h1
      subst hspot
      have hex : ∀ k, k ≤ len → ∃ l : List α, l.length = k ∧ (∀ y ∈ l, good y) ∧ ∀ (i : Nat) (y : α), l[i]? = some y → ∀ j, j < size α → ∃ v d, w.cell? ⟨b, off + (i * size α + j), none⟩ = some v ∧ (enc y).cells[j]? = some d ∧ Rd (allI w) v d := by
        intro k
        induction k with
        | zero => exact fun _ => ⟨[], rfl, by simp, by simp⟩
        | succ k ih =>
          intro hk
          obtain ⟨l, h1, h2, h3⟩ := ih (by omega)
          obtain ⟨y, cs', hy, hat, hcl, hcs⟩ := hel k (by omega)
          refine ⟨l ++ [y], by simp [h1], fun z hz => ?_, fun i z hz j hj => ?_⟩
          · rcases List.mem_append.1 hz with h4 | h4
            · exact h2 z h4
            · simp at h4; subst h4; exact hy
          · by_cases hil : i < l.length
            · rw [List.getElem?_append_left hil] at hz
              exact h3 i z hz j hj
            · rw [List.getElem?_append_right (by omega)] at hz
              have hik : i = k := by
                have := (List.getElem?_eq_some_iff.1 hz).1
                simp at this; omega
              subst hik
              rw [h1] at hz
              simp at hz
              subst hz
              have hv : cs'[j]? = some (cs'[j]'(by omega)) := List.getElem?_eq_getElem (by omega)
              have hd : (enc y).cells[j]? = some ((enc y).cells[j]'(by rw [Enc.len]; exact hj)) := List.getElem?_eq_getElem _
              refine ⟨_, _, ?_, hd, hcs.2.2 j _ _ hv hd⟩
              have := hat j hj
              rw [hv, addr_add] at this
              exact this
      obtain ⟨l, h1, h2, h3⟩ := hex len (Nat.le_refl _)
      refine ⟨l, ⟨by omega, h2⟩, cells_one rfl ?_⟩
      rw [enc_list]
      have hflen : (flat (l.map (enc : α → D))).length = len * size α := by
        rw [flat_len (l.map (enc : α → D)) (size := size α) fun d hd => by obtain ⟨y, _, rfl⟩ := List.mem_map.1 hd; exact Enc.len y]
        simp [h1]
      have hfl : ∀ k, k < len * size α → ∃ v d, w.cell? ⟨b, off + k, none⟩ = some v ∧ (flat (l.map (enc : α → D)))[k]? = some d ∧ Rd (allI w) v d := fun k hk => by
        have hi : k / size α < len := (Nat.div_lt_iff_lt_mul hpos').2 hk
        have hj : k % size α < size α := Nat.mod_lt _ hpos'
        have hy : l[k / size α]? = some (l[k / size α]'(by omega)) := List.getElem?_eq_getElem (by omega)
        obtain ⟨v, d, k1, k2, k3⟩ := h3 _ _ hy _ hj
        refine ⟨v, d, ?_, ?_, k3⟩
        · rw [Nat.mul_comm, Nat.div_add_mod] at k1; exact k1
        · rw [show k = k / size α * size α + k % size α by rw [Nat.mul_comm]; exact (Nat.div_add_mod k (size α)).symm]
          rw [flat_get (l.map (enc : α → D)) (fun d hd => by obtain ⟨y, _, rfl⟩ := List.mem_map.1 hd; exact Enc.len y) _ _ (enc (l[k / size α]'(by omega))) (by rw [List.getElem?_map, hy]; rfl) hj]
          exact k2
      refine .slice b off len cap (size α) _ (fun k => (w.cell? ⟨b, off + k, none⟩).getD undef) (by simp [h1]) hl hm (fun d hd => ?_) (fun k hk => ?_) (fun k x hx => ?_)
      · obtain ⟨y, _, rfl⟩ := List.mem_map.1 hd
        exact ⟨Enc.len y, Enc.ones y⟩
      · obtain ⟨v, d, k1, _, _⟩ := hfl k hk
        show w.cell? ⟨b, off + k, none⟩ = _
        simp [k1]
      · have hk : k < len * size α := by rw [← hflen]; exact (List.getElem?_eq_some_iff.1 hx).1
        obtain ⟨v, d, k1, k2, k3⟩ := hfl k hk
        rw [hx] at k2; cases k2
        simpa [k1] using k3
theorem notAgg {W : World} {r : Reach} {b : Nat} {v : Value} (h : Value.okWide P W r b t v) (hk : (match P.underlying t with | some (.struct _) | some (.array _ _) => false | _ => true) = true) : ∀ cs, v ≠ .agg cs := by
  rintro cs rfl
  cases hu : P.underlying t with
  | none => simp [Value.okWide, hu, Cell.okWide, Cell.ok] at h
  | some d =>
    rw [hu] at hk
    cases d <;> first | (simp [Value.okWide, hu, Cell.okWide, Cell.ok] at h; done) | (simp at hk; done)
variable {H : Type} {en : TypeId × Value → H} {W : World} {base : Nat} {sp : Nat → Bool} {held : Bool} {v : Value} {d : DataW H} {ps : List MemPlace} {α : Type} [Enc α] {good : α → Prop}
/-- An argument of one cell, as Lean's own data. -/
theorem arg_one (hO : Opens P t α good) (h1 : ∀ a : α, (enc a).cells = [enc a]) {r : Reach} {b : Nat} (hok : Value.okWide P W r b t v) (hk : (match P.underlying t with | some (.struct _) | some (.array _ _) => false | _ => true) = true)
    (h : DataW.Trod en P W base sp held t v d ps) : ∃ a : α, good a ∧ Rd (allI W) v (enc a) := by
  obtain ⟨fuel, hf⟩ := h
  have hna := notAgg hok hk
  have hc : v.cells.toList = [v] := by cases v <;> first | rfl | exact absurd rfl (hna _)
  rw [hc] at hf
  obtain ⟨a, ha, hcs⟩ := hO H en W base sp held fuel _ _ hf
  rw [h1] at hcs
  exact ⟨a, ha, hcs.2.2 0 _ _ rfl rfl⟩
/-- A struct. -/
theorem arg_agg (hO : Opens P t α good) (h1 : ∀ a : α, enc a = .agg (enc a).cells) {fs : Array Field} (ht : P.underlying t = some (.struct fs)) {r : Reach} {b : Nat} (hok : Value.okWide P W r b t v)
    (h : DataW.Trod en P W base sp held t v d ps) : ∃ a : α, good a ∧ Rd (allI W) v (enc a) := by
  obtain ⟨fuel, hf⟩ := h
  obtain ⟨cs, rfl, _⟩ := okWide_struct ht hok
  obtain ⟨a, ha, hcs⟩ := hO H en W base sp held fuel _ _ hf
  refine ⟨a, ha, ?_⟩
  rw [h1]
  exact .agg cs _ (by have := hcs.1; simpa [Value.cells] using this) hcs.2.1 fun i v d hv hd => hcs.2.2 i v d (by simpa [Value.cells] using hv) hd
end
/-- Arguments read as they did. -/
theorem trodAll_below {H : Type} {en : TypeId × Value → H} {P : Program} (hl : laidOutB P = true) {W W' : World} (hb : Below W.heap.size W W') :
    ∀ {ts : List TypeId} {vs : List Value} {ds : List (DataW H)} {ps : List MemPlace}, (ts.all fun t => P.readableRec t && decide (t < P.types.size)) = true → DataW.TrodAll en P W 0 (fun _ => true) true ts vs ds ps → (∀ x ∈ ps, x.block < W.heap.size) → DataW.TrodAll en P W' 0 (fun b => decide (b < W.heap.size)) true ts vs ds ps
  | [], [], [], _, _, h, _ => h
  | t :: ts, v :: vs, d :: ds, _, ht, ⟨p, q, h1, h2, e⟩, hlt => by
    simp only [List.all_cons, Bool.and_eq_true, decide_eq_true_eq] at ht
    exact ⟨p, q, Below.trod hl ht.1.1 ht.1.2 h1 hb (fun x hx => hlt x (by rw [e]; exact List.mem_append_left _ hx)), trodAll_below hl hb ht.2 h2 (fun x hx => hlt x (by rw [e]; exact List.mem_append_right _ hx)), e⟩
  | [], _ :: _, _, _, _, h, _ => h.elim
  | [], [], _ :: _, _, _, h, _ => h.elim
  | _ :: _, [], _, _, _, h, _ => h.elim
  | _ :: _, _ :: _, [], _, _, h, _ => h.elim
/-- What a contract gives in any world. -/
theorem run_of {P : Program} {f : FuncId} {ds : List D} {r : D} (h : PureCon P f ds r) {W : World} {vs : Array Value} (hs : vs.size = ds.length) (hr : ∀ (i : Nat) v d, vs[i]? = some v → ds[i]? = some d → Rd (allI W) v d) :
    Calls P f vs W fun e w' => ∃ v J, e = .returned v ∧ Below W.heap.size W w' ∧ Rd J v r :=
  (h W (allI W) vs (allI_sat W) hs hr).mono fun _ _ ⟨v, J, h1, h2, _, _, h5⟩ => ⟨v, J, h1, h2.below, h5⟩
end Go.Eva

/-
  The types of this seat, as Eva wants them: printed by a program out of the translation.
-/
namespace Go.Proofs.Ytpbhcpeilgmkeaa
open Go Go.Eva

def tyTab : List (Nat × TI) := [
  (1, ⟨1, 8, [.nilfn], .prim⟩),
  (2, ⟨1, 8, [.int .i64 0], .intk .i64⟩),
  (3, ⟨1, 8, [.int .i64 0], .intk .i64⟩),
  (4, ⟨1, 1, [.bool false], .prim⟩),
  (5, ⟨1, 1, [.int .u8 0], .intk .u8⟩),
  (6, ⟨1, 1, [.int .u8 0], .intk .u8⟩),
  (7, ⟨4, 24, [.int .i64 0, .int .i64 0, .bool false, .int .u8 0], .struct [(0, 2), (1, 3), (2, 4), (3, 6)]⟩),
  (8, ⟨4, 24, [.int .i64 0, .int .i64 0, .bool false, .int .u8 0], .struct [(0, 2), (1, 3), (2, 4), (3, 6)]⟩),
  (9, ⟨1, 16, [.str ⟨#[]⟩], .string⟩),
  (10, ⟨1, 16, [.str ⟨#[]⟩], .string⟩),
  (11, ⟨1, 16, [.str ⟨#[]⟩], .string⟩),
  (12, ⟨1, 8, [.int .u64 0], .intk .u64⟩),
  (13, ⟨2, 24, [.str ⟨#[]⟩, .int .u64 0], .struct [(0, 9), (1, 12)]⟩),
  (14, ⟨2, 24, [.str ⟨#[]⟩, .int .u64 0], .struct [(0, 9), (1, 12)]⟩),
  (15, ⟨1, 8, [.nilp], .prim⟩),
  (16, ⟨1, 8, [.nilp], .prim⟩),
  (17, ⟨1, 8, [.nilp], .prim⟩),
  (18, ⟨1, 8, [.nilp], .struct [(0, 17)]⟩),
  (19, ⟨1, 8, [.nilp], .struct [(0, 17)]⟩),
  (21, ⟨1, 4, [.int .i32 0], .intk .i32⟩),
  (22, ⟨1, 24, [.slice 0 []], .slice 42⟩),
  (23, ⟨1, 8, [.nilfn], .prim⟩),
  (24, ⟨1, 8, [.nilfn], .prim⟩),
  (25, ⟨1, 8, [.int .i64 0], .intk .i64⟩),
  (27, ⟨1, 8, [.nilfn], .prim⟩),
  (28, ⟨1, 8, [.nilfn], .prim⟩),
  (29, ⟨1, 24, [.slice 0 []], .slice 40⟩),
  (31, ⟨1, 8, [.nilfn], .prim⟩),
  (32, ⟨1, 8, [.nilfn], .prim⟩),
  (34, ⟨1, 8, [.nilfn], .prim⟩),
  (35, ⟨1, 8, [.nilfn], .prim⟩),
  (36, ⟨1, 24, [.slice 0 []], .slice 5⟩),
  (37, ⟨3, 24, [.int .i64 0, .int .i64 0, .int .i64 0], .struct [(0, 3), (1, 3), (2, 3)]⟩),
  (38, ⟨3, 24, [.int .i64 0, .int .i64 0, .int .i64 0], .struct [(0, 3), (1, 3), (2, 3)]⟩),
  (39, ⟨10, 88, [.int .i64 0, .int .i64 0, .int .i64 0, .int .i64 0, .int .i64 0, .int .i64 0, .int .i64 0, .int .i64 0, .int .i64 0, .str ⟨#[]⟩], .struct [(0, 3), (1, 3), (2, 3), (3, 38), (6, 3), (7, 3), (8, 3), (9, 9)]⟩),
  (40, ⟨10, 88, [.int .i64 0, .int .i64 0, .int .i64 0, .int .i64 0, .int .i64 0, .int .i64 0, .int .i64 0, .int .i64 0, .int .i64 0, .str ⟨#[]⟩], .struct [(0, 3), (1, 3), (2, 3), (3, 38), (6, 3), (7, 3), (8, 3), (9, 9)]⟩),
  (41, ⟨14, 120, [.int .i64 0, .int .i64 0, .int .i64 0, .int .i64 0, .int .i64 0, .int .i64 0, .int .i64 0, .int .i64 0, .int .i64 0, .int .i64 0, .int .i64 0, .int .i64 0, .int .i64 0, .str ⟨#[]⟩], .struct [(0, 3), (1, 3), (2, 3), (3, 3), (4, 40)]⟩),
  (42, ⟨14, 120, [.int .i64 0, .int .i64 0, .int .i64 0, .int .i64 0, .int .i64 0, .int .i64 0, .int .i64 0, .int .i64 0, .int .i64 0, .int .i64 0, .int .i64 0, .int .i64 0, .int .i64 0, .str ⟨#[]⟩], .struct [(0, 3), (1, 3), (2, 3), (3, 3), (4, 40)]⟩),
  (43, ⟨1, 8, [.nilfn], .prim⟩),
  (44, ⟨1, 8, [.nilfn], .prim⟩),
  (45, ⟨1, 8, [.map [] []], .map 3 42⟩),
  (46, ⟨1, 8, [.nilfn], .prim⟩),
  (47, ⟨1, 8, [.map [] []], .map 3 40⟩),
  (49, ⟨1, 8, [.nilfn], .prim⟩),
  (50, ⟨1, 8, [.nilfn], .prim⟩),
  (51, ⟨1, 8, [.nilfn], .prim⟩),
  (52, ⟨1, 8, [.nilfn], .prim⟩),
  (53, ⟨1, 8, [.nilfn], .prim⟩),
  (54, ⟨1, 8, [.nilfn], .prim⟩),
  (55, ⟨1, 8, [.nilfn], .prim⟩),
  (56, ⟨1, 8, [.nilfn], .prim⟩),
  (57, ⟨1, 8, [.nilfn], .prim⟩),
  (59, ⟨1, 8, [.nilfn], .prim⟩),
  (60, ⟨1, 8, [.nilfn], .prim⟩),
  (61, ⟨1, 8, [.nilfn], .prim⟩),
  (62, ⟨1, 24, [.slice 0 []], .slice 3⟩),
  (63, ⟨1, 8, [.nilfn], .prim⟩),
  (64, ⟨1, 8, [.nilfn], .prim⟩),
  (65, ⟨1, 8, [.nilfn], .prim⟩),
  (66, ⟨1, 8, [.nilfn], .prim⟩),
  (67, ⟨1, 8, [.nilfn], .prim⟩),
  (68, ⟨1, 8, [.nilfn], .prim⟩),
  (69, ⟨1, 8, [.nilfn], .prim⟩),
  (70, ⟨1, 8, [.nilfn], .prim⟩),
  (71, ⟨1, 8, [.nilfn], .prim⟩),
  (72, ⟨1, 8, [.nilfn], .prim⟩),
  (73, ⟨1, 8, [.int .u64 0], .intk .u64⟩),
  (74, ⟨1, 8, [.nilfn], .prim⟩),
  (75, ⟨1, 8, [.nilfn], .prim⟩),
  (76, ⟨1, 8, [.nilfn], .prim⟩),
  (77, ⟨1, 8, [.nilfn], .prim⟩),
  (78, ⟨1, 8, [.nilfn], .prim⟩),
  (79, ⟨2, 16, [.nilfn, .nilfn], .struct [(0, 77), (1, 78)]⟩),
  (80, ⟨2, 16, [.nilfn, .nilfn], .struct [(0, 77), (1, 78)]⟩),
  (82, ⟨1, 8, [.map [] []], .map 3 80⟩),
  (83, ⟨1, 8, [.nilfn], .prim⟩),
  (84, ⟨1, 8, [.nilfn], .prim⟩),
  (85, ⟨1, 8, [.nilfn], .prim⟩),
  (86, ⟨1, 24, [.slice 0 []], .slice 21⟩),
  (87, ⟨1, 8, [.nilfn], .prim⟩),
  (88, ⟨1, 8, [.int .i64 0], .intk .i64⟩),
  (90, ⟨1, 8, [.nilfn], .prim⟩),
  (91, ⟨1, 8, [.nilfn], .prim⟩),
  (92, ⟨1, 8, [.nilfn], .prim⟩),
  (94, ⟨1, 8, [.nilfn], .prim⟩),
  (95, ⟨1, 8, [.nilfn], .prim⟩),
  (96, ⟨1, 4, [.int .u32 0], .intk .u32⟩),
  (97, ⟨1, 8, [.nilfn], .prim⟩),
  (98, ⟨1, 8, [.int .u64 0], .intk .u64⟩),
  (99, ⟨1, 8, [.nilfn], .prim⟩),
  (100, ⟨1, 8, [.nilfn], .prim⟩),
  (101, ⟨1, 8, [.nilfn], .prim⟩),
  (102, ⟨1, 8, [.int .u64 0], .intk .u64⟩),
  (103, ⟨1, 8, [.nilfn], .prim⟩),
  (104, ⟨1, 8, [.nilfn], .prim⟩),
  (105, ⟨1, 8, [.nilfn], .prim⟩),
  (106, ⟨1, 8, [.nilp], .prim⟩),
  (107, ⟨1, 8, [.nilfn], .prim⟩),
  (108, ⟨1, 8, [.nilfn], .prim⟩),
  (109, ⟨1, 8, [.nilfn], .prim⟩),
  (110, ⟨1, 8, [.nilfn], .prim⟩),
  (111, ⟨1, 8, [.nilfn], .prim⟩),
  (112, ⟨1, 8, [.nilfn], .prim⟩),
  (113, ⟨1, 8, [.nilfn], .prim⟩),
  (114, ⟨1, 8, [.nilp], .prim⟩),
  (116, ⟨1, 8, [.nilfn], .prim⟩),
  (117, ⟨1, 8, [.nilfn], .prim⟩),
  (118, ⟨1, 8, [.nilfn], .prim⟩),
  (119, ⟨1, 8, [.nilfn], .prim⟩),
  (120, ⟨1, 8, [.nilfn], .prim⟩),
  (121, ⟨4, 40, [.nilp, .nilp, .nilp, .str ⟨#[]⟩], .struct [(0, 17), (1, 17), (2, 17), (3, 9)]⟩),
  (122, ⟨4, 40, [.nilp, .nilp, .nilp, .str ⟨#[]⟩], .struct [(0, 17), (1, 17), (2, 17), (3, 9)]⟩),
  (123, ⟨0, 0, [], .array 0 16⟩),
  (124, ⟨0, 0, [], .struct [(0, 123)]⟩),
  (125, ⟨0, 0, [], .struct [(0, 123)]⟩),
  (126, ⟨1, 8, [.nilfn], .prim⟩),
  (127, ⟨1, 1, [.int .u8 0], .intk .u8⟩),
  (128, ⟨1, 1, [.int .u8 0], .intk .u8⟩),
  (129, ⟨1, 8, [.nilfn], .prim⟩),
  (130, ⟨1, 8, [.nilp], .prim⟩),
  (131, ⟨1, 4, [.int .i32 0], .intk .i32⟩),
  (132, ⟨1, 4, [.int .i32 0], .intk .i32⟩),
  (133, ⟨11, 48, [.int .u64 0, .int .u64 0, .int .u32 0, .int .u8 0, .int .u8 0, .int .u8 0, .int .u8 0, .nilfn, .nilp, .int .i32 0, .int .i32 0], .struct [(0, 12), (1, 12), (2, 96), (3, 127), (4, 5), (5, 5), (6, 128), (7, 129), (8, 130), (9, 131), (10, 132)]⟩),
  (134, ⟨11, 48, [.int .u64 0, .int .u64 0, .int .u32 0, .int .u8 0, .int .u8 0, .int .u8 0, .int .u8 0, .nilfn, .nilp, .int .i32 0, .int .i32 0], .struct [(0, 12), (1, 12), (2, 96), (3, 127), (4, 5), (5, 5), (6, 128), (7, 129), (8, 130), (9, 131), (10, 132)]⟩)]
def tenv : TEnv := fun t => (tyTab.find? fun p => p.1 == t).map (·.2)
theorem tyTab_ok : tyTab.all (fun p => tiOk Try.prog p.1 p.2) = true := by kernel_rfl
theorem tenv_ok : TOk Try.prog tenv := TOk.of_tab tyTab_ok
theorem te1 : tenv 1 = some ⟨1, 8, [.nilfn], .prim⟩ := rfl
theorem te2 : tenv 2 = some ⟨1, 8, [.int .i64 0], .intk .i64⟩ := rfl
theorem te3 : tenv 3 = some ⟨1, 8, [.int .i64 0], .intk .i64⟩ := rfl
theorem te4 : tenv 4 = some ⟨1, 1, [.bool false], .prim⟩ := rfl
theorem te5 : tenv 5 = some ⟨1, 1, [.int .u8 0], .intk .u8⟩ := rfl
theorem te6 : tenv 6 = some ⟨1, 1, [.int .u8 0], .intk .u8⟩ := rfl
theorem te7 : tenv 7 = some ⟨4, 24, [.int .i64 0, .int .i64 0, .bool false, .int .u8 0], .struct [(0, 2), (1, 3), (2, 4), (3, 6)]⟩ := rfl
theorem te8 : tenv 8 = some ⟨4, 24, [.int .i64 0, .int .i64 0, .bool false, .int .u8 0], .struct [(0, 2), (1, 3), (2, 4), (3, 6)]⟩ := rfl
theorem te9 : tenv 9 = some ⟨1, 16, [.str ⟨#[]⟩], .string⟩ := rfl
theorem te10 : tenv 10 = some ⟨1, 16, [.str ⟨#[]⟩], .string⟩ := rfl
theorem te11 : tenv 11 = some ⟨1, 16, [.str ⟨#[]⟩], .string⟩ := rfl
theorem te12 : tenv 12 = some ⟨1, 8, [.int .u64 0], .intk .u64⟩ := rfl
theorem te13 : tenv 13 = some ⟨2, 24, [.str ⟨#[]⟩, .int .u64 0], .struct [(0, 9), (1, 12)]⟩ := rfl
theorem te14 : tenv 14 = some ⟨2, 24, [.str ⟨#[]⟩, .int .u64 0], .struct [(0, 9), (1, 12)]⟩ := rfl
theorem te15 : tenv 15 = some ⟨1, 8, [.nilp], .prim⟩ := rfl
theorem te16 : tenv 16 = some ⟨1, 8, [.nilp], .prim⟩ := rfl
theorem te17 : tenv 17 = some ⟨1, 8, [.nilp], .prim⟩ := rfl
theorem te18 : tenv 18 = some ⟨1, 8, [.nilp], .struct [(0, 17)]⟩ := rfl
theorem te19 : tenv 19 = some ⟨1, 8, [.nilp], .struct [(0, 17)]⟩ := rfl
theorem te21 : tenv 21 = some ⟨1, 4, [.int .i32 0], .intk .i32⟩ := rfl
theorem te22 : tenv 22 = some ⟨1, 24, [.slice 0 []], .slice 42⟩ := rfl
theorem te23 : tenv 23 = some ⟨1, 8, [.nilfn], .prim⟩ := rfl
theorem te24 : tenv 24 = some ⟨1, 8, [.nilfn], .prim⟩ := rfl
theorem te25 : tenv 25 = some ⟨1, 8, [.int .i64 0], .intk .i64⟩ := rfl
theorem te27 : tenv 27 = some ⟨1, 8, [.nilfn], .prim⟩ := rfl
theorem te28 : tenv 28 = some ⟨1, 8, [.nilfn], .prim⟩ := rfl
theorem te29 : tenv 29 = some ⟨1, 24, [.slice 0 []], .slice 40⟩ := rfl
theorem te31 : tenv 31 = some ⟨1, 8, [.nilfn], .prim⟩ := rfl
theorem te32 : tenv 32 = some ⟨1, 8, [.nilfn], .prim⟩ := rfl
theorem te34 : tenv 34 = some ⟨1, 8, [.nilfn], .prim⟩ := rfl
theorem te35 : tenv 35 = some ⟨1, 8, [.nilfn], .prim⟩ := rfl
theorem te36 : tenv 36 = some ⟨1, 24, [.slice 0 []], .slice 5⟩ := rfl
theorem te37 : tenv 37 = some ⟨3, 24, [.int .i64 0, .int .i64 0, .int .i64 0], .struct [(0, 3), (1, 3), (2, 3)]⟩ := rfl
theorem te38 : tenv 38 = some ⟨3, 24, [.int .i64 0, .int .i64 0, .int .i64 0], .struct [(0, 3), (1, 3), (2, 3)]⟩ := rfl
theorem te39 : tenv 39 = some ⟨10, 88, [.int .i64 0, .int .i64 0, .int .i64 0, .int .i64 0, .int .i64 0, .int .i64 0, .int .i64 0, .int .i64 0, .int .i64 0, .str ⟨#[]⟩], .struct [(0, 3), (1, 3), (2, 3), (3, 38), (6, 3), (7, 3), (8, 3), (9, 9)]⟩ := rfl
theorem te40 : tenv 40 = some ⟨10, 88, [.int .i64 0, .int .i64 0, .int .i64 0, .int .i64 0, .int .i64 0, .int .i64 0, .int .i64 0, .int .i64 0, .int .i64 0, .str ⟨#[]⟩], .struct [(0, 3), (1, 3), (2, 3), (3, 38), (6, 3), (7, 3), (8, 3), (9, 9)]⟩ := rfl
theorem te41 : tenv 41 = some ⟨14, 120, [.int .i64 0, .int .i64 0, .int .i64 0, .int .i64 0, .int .i64 0, .int .i64 0, .int .i64 0, .int .i64 0, .int .i64 0, .int .i64 0, .int .i64 0, .int .i64 0, .int .i64 0, .str ⟨#[]⟩], .struct [(0, 3), (1, 3), (2, 3), (3, 3), (4, 40)]⟩ := rfl
theorem te42 : tenv 42 = some ⟨14, 120, [.int .i64 0, .int .i64 0, .int .i64 0, .int .i64 0, .int .i64 0, .int .i64 0, .int .i64 0, .int .i64 0, .int .i64 0, .int .i64 0, .int .i64 0, .int .i64 0, .int .i64 0, .str ⟨#[]⟩], .struct [(0, 3), (1, 3), (2, 3), (3, 3), (4, 40)]⟩ := rfl
theorem te43 : tenv 43 = some ⟨1, 8, [.nilfn], .prim⟩ := rfl
theorem te44 : tenv 44 = some ⟨1, 8, [.nilfn], .prim⟩ := rfl
theorem te45 : tenv 45 = some ⟨1, 8, [.map [] []], .map 3 42⟩ := rfl
theorem te46 : tenv 46 = some ⟨1, 8, [.nilfn], .prim⟩ := rfl
theorem te47 : tenv 47 = some ⟨1, 8, [.map [] []], .map 3 40⟩ := rfl
theorem te49 : tenv 49 = some ⟨1, 8, [.nilfn], .prim⟩ := rfl
theorem te50 : tenv 50 = some ⟨1, 8, [.nilfn], .prim⟩ := rfl
theorem te51 : tenv 51 = some ⟨1, 8, [.nilfn], .prim⟩ := rfl
theorem te52 : tenv 52 = some ⟨1, 8, [.nilfn], .prim⟩ := rfl
theorem te53 : tenv 53 = some ⟨1, 8, [.nilfn], .prim⟩ := rfl
theorem te54 : tenv 54 = some ⟨1, 8, [.nilfn], .prim⟩ := rfl
theorem te55 : tenv 55 = some ⟨1, 8, [.nilfn], .prim⟩ := rfl
theorem te56 : tenv 56 = some ⟨1, 8, [.nilfn], .prim⟩ := rfl
theorem te57 : tenv 57 = some ⟨1, 8, [.nilfn], .prim⟩ := rfl
theorem te59 : tenv 59 = some ⟨1, 8, [.nilfn], .prim⟩ := rfl
theorem te60 : tenv 60 = some ⟨1, 8, [.nilfn], .prim⟩ := rfl
theorem te61 : tenv 61 = some ⟨1, 8, [.nilfn], .prim⟩ := rfl
theorem te62 : tenv 62 = some ⟨1, 24, [.slice 0 []], .slice 3⟩ := rfl
theorem te63 : tenv 63 = some ⟨1, 8, [.nilfn], .prim⟩ := rfl
theorem te64 : tenv 64 = some ⟨1, 8, [.nilfn], .prim⟩ := rfl
theorem te65 : tenv 65 = some ⟨1, 8, [.nilfn], .prim⟩ := rfl
theorem te66 : tenv 66 = some ⟨1, 8, [.nilfn], .prim⟩ := rfl
theorem te67 : tenv 67 = some ⟨1, 8, [.nilfn], .prim⟩ := rfl
theorem te68 : tenv 68 = some ⟨1, 8, [.nilfn], .prim⟩ := rfl
theorem te69 : tenv 69 = some ⟨1, 8, [.nilfn], .prim⟩ := rfl
theorem te70 : tenv 70 = some ⟨1, 8, [.nilfn], .prim⟩ := rfl
theorem te71 : tenv 71 = some ⟨1, 8, [.nilfn], .prim⟩ := rfl
theorem te72 : tenv 72 = some ⟨1, 8, [.nilfn], .prim⟩ := rfl
theorem te73 : tenv 73 = some ⟨1, 8, [.int .u64 0], .intk .u64⟩ := rfl
theorem te74 : tenv 74 = some ⟨1, 8, [.nilfn], .prim⟩ := rfl
theorem te75 : tenv 75 = some ⟨1, 8, [.nilfn], .prim⟩ := rfl
theorem te76 : tenv 76 = some ⟨1, 8, [.nilfn], .prim⟩ := rfl
theorem te77 : tenv 77 = some ⟨1, 8, [.nilfn], .prim⟩ := rfl
theorem te78 : tenv 78 = some ⟨1, 8, [.nilfn], .prim⟩ := rfl
theorem te79 : tenv 79 = some ⟨2, 16, [.nilfn, .nilfn], .struct [(0, 77), (1, 78)]⟩ := rfl
theorem te80 : tenv 80 = some ⟨2, 16, [.nilfn, .nilfn], .struct [(0, 77), (1, 78)]⟩ := rfl
theorem te82 : tenv 82 = some ⟨1, 8, [.map [] []], .map 3 80⟩ := rfl
theorem te83 : tenv 83 = some ⟨1, 8, [.nilfn], .prim⟩ := rfl
theorem te84 : tenv 84 = some ⟨1, 8, [.nilfn], .prim⟩ := rfl
theorem te85 : tenv 85 = some ⟨1, 8, [.nilfn], .prim⟩ := rfl
theorem te86 : tenv 86 = some ⟨1, 24, [.slice 0 []], .slice 21⟩ := rfl
theorem te87 : tenv 87 = some ⟨1, 8, [.nilfn], .prim⟩ := rfl
theorem te88 : tenv 88 = some ⟨1, 8, [.int .i64 0], .intk .i64⟩ := rfl
theorem te90 : tenv 90 = some ⟨1, 8, [.nilfn], .prim⟩ := rfl
theorem te91 : tenv 91 = some ⟨1, 8, [.nilfn], .prim⟩ := rfl
theorem te92 : tenv 92 = some ⟨1, 8, [.nilfn], .prim⟩ := rfl
theorem te94 : tenv 94 = some ⟨1, 8, [.nilfn], .prim⟩ := rfl
theorem te95 : tenv 95 = some ⟨1, 8, [.nilfn], .prim⟩ := rfl
theorem te96 : tenv 96 = some ⟨1, 4, [.int .u32 0], .intk .u32⟩ := rfl
theorem te97 : tenv 97 = some ⟨1, 8, [.nilfn], .prim⟩ := rfl
theorem te98 : tenv 98 = some ⟨1, 8, [.int .u64 0], .intk .u64⟩ := rfl
theorem te99 : tenv 99 = some ⟨1, 8, [.nilfn], .prim⟩ := rfl
theorem te100 : tenv 100 = some ⟨1, 8, [.nilfn], .prim⟩ := rfl
theorem te101 : tenv 101 = some ⟨1, 8, [.nilfn], .prim⟩ := rfl
theorem te102 : tenv 102 = some ⟨1, 8, [.int .u64 0], .intk .u64⟩ := rfl
theorem te103 : tenv 103 = some ⟨1, 8, [.nilfn], .prim⟩ := rfl
theorem te104 : tenv 104 = some ⟨1, 8, [.nilfn], .prim⟩ := rfl
theorem te105 : tenv 105 = some ⟨1, 8, [.nilfn], .prim⟩ := rfl
theorem te106 : tenv 106 = some ⟨1, 8, [.nilp], .prim⟩ := rfl
theorem te107 : tenv 107 = some ⟨1, 8, [.nilfn], .prim⟩ := rfl
theorem te108 : tenv 108 = some ⟨1, 8, [.nilfn], .prim⟩ := rfl
theorem te109 : tenv 109 = some ⟨1, 8, [.nilfn], .prim⟩ := rfl
theorem te110 : tenv 110 = some ⟨1, 8, [.nilfn], .prim⟩ := rfl
theorem te111 : tenv 111 = some ⟨1, 8, [.nilfn], .prim⟩ := rfl
theorem te112 : tenv 112 = some ⟨1, 8, [.nilfn], .prim⟩ := rfl
theorem te113 : tenv 113 = some ⟨1, 8, [.nilfn], .prim⟩ := rfl
theorem te114 : tenv 114 = some ⟨1, 8, [.nilp], .prim⟩ := rfl
theorem te116 : tenv 116 = some ⟨1, 8, [.nilfn], .prim⟩ := rfl
theorem te117 : tenv 117 = some ⟨1, 8, [.nilfn], .prim⟩ := rfl
theorem te118 : tenv 118 = some ⟨1, 8, [.nilfn], .prim⟩ := rfl
theorem te119 : tenv 119 = some ⟨1, 8, [.nilfn], .prim⟩ := rfl
theorem te120 : tenv 120 = some ⟨1, 8, [.nilfn], .prim⟩ := rfl
theorem te121 : tenv 121 = some ⟨4, 40, [.nilp, .nilp, .nilp, .str ⟨#[]⟩], .struct [(0, 17), (1, 17), (2, 17), (3, 9)]⟩ := rfl
theorem te122 : tenv 122 = some ⟨4, 40, [.nilp, .nilp, .nilp, .str ⟨#[]⟩], .struct [(0, 17), (1, 17), (2, 17), (3, 9)]⟩ := rfl
theorem te123 : tenv 123 = some ⟨0, 0, [], .array 0 16⟩ := rfl
theorem te124 : tenv 124 = some ⟨0, 0, [], .struct [(0, 123)]⟩ := rfl
theorem te125 : tenv 125 = some ⟨0, 0, [], .struct [(0, 123)]⟩ := rfl
theorem te126 : tenv 126 = some ⟨1, 8, [.nilfn], .prim⟩ := rfl
theorem te127 : tenv 127 = some ⟨1, 1, [.int .u8 0], .intk .u8⟩ := rfl
theorem te128 : tenv 128 = some ⟨1, 1, [.int .u8 0], .intk .u8⟩ := rfl
theorem te129 : tenv 129 = some ⟨1, 8, [.nilfn], .prim⟩ := rfl
theorem te130 : tenv 130 = some ⟨1, 8, [.nilp], .prim⟩ := rfl
theorem te131 : tenv 131 = some ⟨1, 4, [.int .i32 0], .intk .i32⟩ := rfl
theorem te132 : tenv 132 = some ⟨1, 4, [.int .i32 0], .intk .i32⟩ := rfl
theorem te133 : tenv 133 = some ⟨11, 48, [.int .u64 0, .int .u64 0, .int .u32 0, .int .u8 0, .int .u8 0, .int .u8 0, .int .u8 0, .nilfn, .nilp, .int .i32 0, .int .i32 0], .struct [(0, 12), (1, 12), (2, 96), (3, 127), (4, 5), (5, 5), (6, 128), (7, 129), (8, 130), (9, 131), (10, 132)]⟩ := rfl
theorem te134 : tenv 134 = some ⟨11, 48, [.int .u64 0, .int .u64 0, .int .u32 0, .int .u8 0, .int .u8 0, .int .u8 0, .int .u8 0, .nilfn, .nilp, .int .i32 0, .int .i32 0], .struct [(0, 12), (1, 12), (2, 96), (3, 127), (4, 5), (5, 5), (6, 128), (7, 129), (8, 130), (9, 131), (10, 132)]⟩ := rfl
end Go.Proofs.Ytpbhcpeilgmkeaa

/-
  The events' data in plain Lean.
-/
namespace Go.Proofs.Ytpbhcpeilgmkeaa
open Go Go.Eva

structure Reader where
  part : Int
  desk : Int
  seat : Int
  deriving DecidableEq
structure Mark where
  id : Int
  kind : Int
  layer : Int
  own : Reader
  version : Int
  note : Int
  value : Int
  text : ByteArray
  deriving DecidableEq
structure Event where
  clock : Int
  stand : Int
  kind : Int
  n : Int
  mark : Mark
  deriving DecidableEq

def encR (r : Reader) : List D := [.int .i64 r.part, .int .i64 r.desk, .int .i64 r.seat]
def encM (m : Mark) : List D := [.int .i64 m.id, .int .i64 m.kind, .int .i64 m.layer, .int .i64 m.own.part, .int .i64 m.own.desk, .int .i64 m.own.seat, .int .i64 m.version, .int .i64 m.note, .int .i64 m.value, .str m.text]
def encE (e : Event) : List D := [.int .i64 e.clock, .int .i64 e.stand, .int .i64 e.kind, .int .i64 e.n, .int .i64 e.mark.id, .int .i64 e.mark.kind, .int .i64 e.mark.layer, .int .i64 e.mark.own.part, .int .i64 e.mark.own.desk, .int .i64 e.mark.own.seat, .int .i64 e.mark.version, .int .i64 e.mark.note, .int .i64 e.mark.value, .str e.mark.text]
instance : Enc Reader := ⟨fun r => .agg (encR r), fun d => match d with | .agg [.int _ a, .int _ b, .int _ c] => ⟨a, b, c⟩ | _ => ⟨0, 0, 0⟩, 3, fun _ => rfl, fun _ => rfl, by simp [D.cells, encR, D.one]⟩
instance : Enc Mark := ⟨fun r => .agg (encM r), fun d => match d with | .agg [.int _ a, .int _ b, .int _ c, .int _ d, .int _ e, .int _ f, .int _ g, .int _ h, .int _ i, .str t] => ⟨a, b, c, ⟨d, e, f⟩, g, h, i, t⟩ | _ => ⟨0, 0, 0, ⟨0, 0, 0⟩, 0, 0, 0, ⟨#[]⟩⟩, 10, fun _ => rfl, fun _ => rfl, by simp [D.cells, encM, D.one]⟩
instance : Enc Event := ⟨fun r => .agg (encE r), fun d => match d with | .agg [.int _ w, .int _ x, .int _ y, .int _ z, .int _ a, .int _ b, .int _ c, .int _ d, .int _ e, .int _ f, .int _ g, .int _ h, .int _ i, .str t] => ⟨w, x, y, z, ⟨a, b, c, ⟨d, e, f⟩, g, h, i, t⟩⟩ | _ => ⟨0, 0, 0, 0, ⟨0, 0, 0, ⟨0, 0, 0⟩, 0, 0, 0, ⟨#[]⟩⟩⟩, 14, fun _ => rfl, fun _ => rfl, by simp [D.cells, encE, D.one]⟩
theorem enc_R (r : Reader) : Enc.enc r = .agg [.int .i64 r.part, .int .i64 r.desk, .int .i64 r.seat] := rfl
theorem enc_M (m : Mark) : Enc.enc m = .agg [.int .i64 m.id, .int .i64 m.kind, .int .i64 m.layer, .int .i64 m.own.part, .int .i64 m.own.desk, .int .i64 m.own.seat, .int .i64 m.version, .int .i64 m.note, .int .i64 m.value, .str m.text] := rfl
theorem enc_E (e : Event) : Enc.enc e = .agg [.int .i64 e.clock, .int .i64 e.stand, .int .i64 e.kind, .int .i64 e.n, .int .i64 e.mark.id, .int .i64 e.mark.kind, .int .i64 e.mark.layer, .int .i64 e.mark.own.part, .int .i64 e.mark.own.desk, .int .i64 e.mark.own.seat, .int .i64 e.mark.version, .int .i64 e.mark.note, .int .i64 e.mark.value, .str e.mark.text] := rfl
theorem dec_R (k1 k2 k3 : IntKind) (a b c : Int) : (Enc.dec (.agg [.int k1 a, .int k2 b, .int k3 c]) : Reader) = ⟨a, b, c⟩ := rfl
theorem dec_M (k1 k2 k3 k4 k5 k6 k7 k8 k9 : IntKind) (a b c d e f g h i : Int) (t : ByteArray) : (Enc.dec (.agg [.int k1 a, .int k2 b, .int k3 c, .int k4 d, .int k5 e, .int k6 f, .int k7 g, .int k8 h, .int k9 i, .str t]) : Mark) = ⟨a, b, c, ⟨d, e, f⟩, g, h, i, t⟩ := rfl
theorem dec_E (j1 j2 j3 j4 k1 k2 k3 k4 k5 k6 k7 k8 k9 : IntKind) (w x y z a b c d e f g h i : Int) (t : ByteArray) : (Enc.dec (.agg [.int j1 w, .int j2 x, .int j3 y, .int j4 z, .int k1 a, .int k2 b, .int k3 c, .int k4 d, .int k5 e, .int k6 f, .int k7 g, .int k8 h, .int k9 i, .str t]) : Event) = ⟨w, x, y, z, ⟨a, b, c, ⟨d, e, f⟩, g, h, i, t⟩⟩ := rfl
theorem size_R : Enc.size Reader = 3 := rfl
theorem size_M : Enc.size Mark = 10 := rfl
theorem size_E : Enc.size Event = 14 := rfl
theorem eta_R (r : Reader) : (⟨r.part, r.desk, r.seat⟩ : Reader) = r := rfl
theorem eta_M (m : Mark) : (⟨m.id, m.kind, m.layer, m.own, m.version, m.note, m.value, m.text⟩ : Mark) = m := rfl
theorem eta_E (e : Event) : (⟨e.clock, e.stand, e.kind, e.n, e.mark⟩ : Event) = e := rfl

theorem mixed : Try.prog.follows .mixedOrders = true := by kernel_rfl

def eqTab : List (Nat × List Lf) := [(4, [.bool]), (38, [.int .i64, .int .i64, .int .i64]), (40, [.int .i64, .int .i64, .int .i64, .int .i64, .int .i64, .int .i64, .int .i64, .int .i64, .int .i64, .str]), (42, [.int .i64, .int .i64, .int .i64, .int .i64, .int .i64, .int .i64, .int .i64, .int .i64, .int .i64, .int .i64, .int .i64, .int .i64, .int .i64, .str])]
theorem eqTab_ok : EqOk Try.prog (lfFind eqTab) := EqOk.of_tab (by kernel_rfl)
theorem eqT4 : lfFind eqTab 4 = some [.bool] := rfl
theorem eqT38 : lfFind eqTab 38 = some [.int .i64, .int .i64, .int .i64] := rfl
theorem eqT40 : lfFind eqTab 40 = some [.int .i64, .int .i64, .int .i64, .int .i64, .int .i64, .int .i64, .int .i64, .int .i64, .int .i64, .str] := rfl
theorem eqT42 : lfFind eqTab 42 = some [.int .i64, .int .i64, .int .i64, .int .i64, .int .i64, .int .i64, .int .i64, .int .i64, .int .i64, .int .i64, .int .i64, .int .i64, .int .i64, .str] := rfl
def env (l : List (FuncId × Eva.Spec)) : Env := { E := tenv, C := cfind l, okEq := lfFind eqTab }
theorem env_ok [Drw] {l : List (FuncId × Eva.Spec)} (h : Specs Try.prog l) : VOk Try.prog (env l) := ⟨tenv_ok, h.ok, eqTab_ok, fun _ _ _ _ h => by cases h⟩

theorem str_beq (a b : ByteArray) : (a == b) = decide (a = b) := by
  have h : ∀ a b : ByteArray, (a == b) = (a.data == b.data) := fun a b => rfl
  rw [h, Bool.eq_iff_iff]; simp [ByteArray.ext_iff]
theorem beq_R (a b : Reader) : (a.part == b.part && (a.desk == b.desk && (a.seat == b.seat && true))) = decide (a = b) := by
  cases a; cases b; rw [Bool.eq_iff_iff]; simp
theorem beq_M (a b : Mark) : beqDs (encM a) (encM b) = decide (a = b) := by
  rcases a with ⟨_, _, _, ⟨_, _, _⟩, _, _, _, _⟩; rcases b with ⟨_, _, _, ⟨_, _, _⟩, _, _, _, _⟩; rw [Bool.eq_iff_iff]; simp [encM, beqDs, beqD, str_beq]; grind
theorem beq_E (a b : Event) : beqDs (encE a) (encE b) = decide (a = b) := by
  rcases a with ⟨_, _, _, _, ⟨_, _, _, ⟨_, _, _⟩, _, _, _, _⟩⟩; rcases b with ⟨_, _, _, _, ⟨_, _, _, ⟨_, _, _⟩, _, _, _, _⟩⟩; rw [Bool.eq_iff_iff]; simp [encE, beqDs, beqD, str_beq]; grind

theorem beqL_R (a b : Reader) : beqDs [.int .i64 a.part, .int .i64 a.desk, .int .i64 a.seat] [.int .i64 b.part, .int .i64 b.desk, .int .i64 b.seat] = decide (a = b) := by simp only [beqDs, beqD]; exact beq_R a b
theorem beqL_M (a b : Mark) : beqDs [.int .i64 a.id, .int .i64 a.kind, .int .i64 a.layer, .int .i64 a.own.part, .int .i64 a.own.desk, .int .i64 a.own.seat, .int .i64 a.version, .int .i64 a.note, .int .i64 a.value, .str a.text] [.int .i64 b.id, .int .i64 b.kind, .int .i64 b.layer, .int .i64 b.own.part, .int .i64 b.own.desk, .int .i64 b.own.seat, .int .i64 b.version, .int .i64 b.note, .int .i64 b.value, .str b.text] = decide (a = b) := beq_M a b
theorem beqL_E (a b : Event) : beqDs [.int .i64 a.clock, .int .i64 a.stand, .int .i64 a.kind, .int .i64 a.n, .int .i64 a.mark.id, .int .i64 a.mark.kind, .int .i64 a.mark.layer, .int .i64 a.mark.own.part, .int .i64 a.mark.own.desk, .int .i64 a.mark.own.seat, .int .i64 a.mark.version, .int .i64 a.mark.note, .int .i64 a.mark.value, .str a.mark.text] [.int .i64 b.clock, .int .i64 b.stand, .int .i64 b.kind, .int .i64 b.n, .int .i64 b.mark.id, .int .i64 b.mark.kind, .int .i64 b.mark.layer, .int .i64 b.mark.own.part, .int .i64 b.mark.own.desk, .int .i64 b.mark.own.seat, .int .i64 b.mark.version, .int .i64 b.mark.note, .int .i64 b.mark.value, .str b.mark.text] = decide (a = b) := beq_E a b
def noMark : Mark := ⟨0, 0, 0, ⟨0, 0, 0⟩, 0, 0, 0, ⟨#[]⟩⟩
theorem beqL_M0 (m : Mark) : beqDs [.int .i64 m.id, .int .i64 m.kind, .int .i64 m.layer, .int .i64 m.own.part, .int .i64 m.own.desk, .int .i64 m.own.seat, .int .i64 m.version, .int .i64 m.note, .int .i64 m.value, .str m.text] [.int .i64 0, .int .i64 0, .int .i64 0, .int .i64 0, .int .i64 0, .int .i64 0, .int .i64 0, .int .i64 0, .int .i64 0, .str ⟨#[]⟩] = decide (m = noMark) := beq_M m noMark
theorem beqL_R0 (r : Reader) : beqDs [.int .i64 r.part, .int .i64 r.desk, .int .i64 r.seat] [.int .i64 0, .int .i64 0, .int .i64 0] = (decide (r.part = 0) && (decide (r.desk = 0) && decide (r.seat = 0))) := by
  rw [Bool.eq_iff_iff]; simp [beqDs, beqD]
def within (a lo hi : Int) : Bool := decide (lo ≤ a) && decide (a ≤ hi)
def isID (a : Int) : Bool := within a 1 1000000
def isReader (r : Reader) : Bool := isID r.part && within r.desk 1 40 && within r.seat 1 4
def before (a b : Event) : Bool := decide (a.clock < b.clock) || decide (a.clock = b.clock) && decide (a.stand < b.stand)
def compare (a b : Int) : Int := if a < b then -1 else if b < a then 1 else 0
def order (a b : Event) : Int := if compare a.clock b.clock = 0 then compare a.stand b.stand else compare a.clock b.clock
def forks (a b : Event) : Bool := decide (a.clock = b.clock) && decide (a.stand = b.stand) && !decide (a = b)
def about (e : Event) : Int := if e.kind = 1 then e.mark.id else if e.kind = 2 then e.n else 0
def byteOk (s : ByteArray) (k : Nat) : Bool := decide (32 ≤ byteAt s k) && decide (byteAt s k ≤ 126)
def allUpTo (s : ByteArray) (n : Nat) : Bool := (List.range n).all (byteOk s)
theorem allUpTo_zero (s : ByteArray) : allUpTo s 0 = true := rfl
theorem allUpTo_succ (s : ByteArray) (n : Nat) : allUpTo s (n + 1) = (allUpTo s n && byteOk s n) := by simp [allUpTo, List.range_succ]
theorem allUpTo_lt {s : ByteArray} {n k : Nat} (h : allUpTo s n = true) (hk : k < n) : 32 ≤ byteAt s k ∧ byteAt s k ≤ 126 := by simp [allUpTo, byteOk] at h; exact h k hk
def textOk (s : ByteArray) : Bool := decide (s.size ≤ 200) && allUpTo s s.size
def byOk (layer : Int) (r : Reader) : Bool :=
  if layer = 1 then isReader r
  else if layer = 2 then isID r.part && within r.desk 1 40 && decide (r.seat = 0)
  else if layer = 3 then within r.part 0 99 && decide (r.desk = 0) && decide (r.seat = 0)
  else if layer = 4 then decide (r.part = 0) && decide (r.desk = 0) && decide (r.seat = 0)
  else false
def markOk (m : Mark) : Bool := textOk m.text && byOk m.layer m.own && isID m.id && isID m.version && isID m.note && within m.kind 1 5 && (within m.value 0 1000 && (!decide (m.kind = 1) || decide (m.value ≤ 2)))
theorem noMark_iff (m : Mark) : m = noMark ↔ m.id = 0 ∧ m.kind = 0 ∧ m.layer = 0 ∧ m.own.part = 0 ∧ m.own.desk = 0 ∧ m.own.seat = 0 ∧ m.version = 0 ∧ m.note = 0 ∧ m.value = 0 ∧ (m.text == ⟨#[]⟩) = true := by
  rcases m with ⟨_, _, _, ⟨_, _, _⟩, _, _, _, _⟩; simp [noMark, str_beq]; grind
def eventOk (e : Event) : Bool := within e.clock 0 1000000000 && isID e.stand &&
  (if e.kind = 1 then markOk e.mark && decide (e.n = 0) else if e.kind = 2 then isID e.n && decide (e.mark = noMark) else if e.kind = 3 then within e.n 0 1000 && decide (e.mark = noMark) else false)
def orI (l : List Int) : Int := (l.find? fun x => decide (x ≠ 0)).getD 0
theorem orI_nil : orI [] = 0 := rfl
theorem orI_cons (x : Int) (l : List Int) : orI (x :: l) = if x = 0 then orI l else x := by simp only [orI, List.find?_cons]; split <;> simp_all
theorem drop_get {α : Type} {l : List α} {k : Nat} {x : α} (h : l[k]? = some x) : l.drop k = x :: l.drop (k + 1) := by
  obtain ⟨h1, h2⟩ := List.getElem?_eq_some_iff.1 h
  rw [List.drop_eq_getElem_cons h1, h2]
theorem ex_get {α : Type} {l : List α} {k : Nat} (h : k < l.length) : ∃ x, l[k]? = some x := ⟨l[k], List.getElem?_eq_getElem h⟩
/-- A rune. -/
structure Rune where
  n : Int
instance : Enc Rune := ⟨fun r => .int .i32 r.n, fun d => match d with | .int _ n => ⟨n⟩ | _ => ⟨0⟩, 1, fun _ => rfl, fun _ => rfl, by simp [D.cells, D.one]⟩
theorem enc_rune (r : Rune) : Enc.enc r = .int .i32 r.n := rfl
theorem size_rune : Enc.size Rune = 1 := rfl
theorem dec_rune (k : IntKind) (n : Int) : (Enc.dec (.int k n) : Rune) = ⟨n⟩ := rfl
theorem eta_rune (r : Rune) : Rune.mk r.n = r := rfl
def runes (s : ByteArray) : List Rune := (Conv.runesFrom s s.size 0 #[]).toList.map fun v => match v with | .int _ n => ⟨n⟩ | _ => ⟨0⟩
theorem runesD_eq (s : ByteArray) : runesD s = (runes s).map Enc.enc := by
  have h := runes_int s s.size 0 #[] (by simp)
  unfold runesD runes
  rw [List.map_map]
  refine List.map_congr_left fun v hv => ?_
  obtain ⟨n, rfl⟩ := h v hv
  rfl
theorem runes_length (s : ByteArray) : (runes s).length ≤ s.size := by
  have := size_runesFrom s s.size 0 #[]
  simpa [runes] using this
def oddRune (r : Rune) : Bool := decide (r.n < 32) || decide (126 < r.n)
def idxI {α : Type} (p : α → Bool) (l : List α) : Int := if l.any p then (l.findIdx p : Int) else -1
theorem take_get {α : Type} {l : List α} {k : Nat} {x : α} (h : l[k]? = some x) : l.take (k + 1) = l.take k ++ [x] := by
  rw [List.take_add_one, h]; rfl
theorem idxI_at {α : Type} {p : α → Bool} {l : List α} {k : Nat} {x : α} (h : (l.take k).any p = false) (hx : l[k]? = some x) (hp : p x = true) : idxI p l = k := by
  obtain ⟨hk, he⟩ := List.getElem?_eq_some_iff.1 hx
  have ha : l.any p = true := List.any_eq_true.2 ⟨x, List.mem_of_getElem? hx, hp⟩
  have : l.findIdx p = k := by
    rw [List.findIdx_eq hk]
    refine ⟨by rw [he]; exact hp, fun j hj => ?_⟩
    have := List.any_eq_false.1 h (l[j]'(by omega)) (List.mem_take_iff_getElem.2 ⟨j, by omega, rfl⟩)
    simpa using this
  rw [idxI, if_pos ha, this]
theorem idxI_end {α : Type} {p : α → Bool} {l : List α} {k : Nat} (h : (l.take k).any p = false) (hk : l.length ≤ k) : idxI p l = -1 := by
  rw [List.take_of_length_le hk] at h
  rw [idxI, if_neg (by rw [h]; simp)]
theorem idxI_any {α : Type} (p : α → Bool) (l : List α) : decide (0 ≤ idxI p l) = l.any p := by
  unfold idxI; split
  · rename_i h; rw [h]; simp
  · rename_i h; have h : l.any p = false := by simpa using h
    rw [h]; rfl
theorem any_take_succ {α : Type} {p : α → Bool} {l : List α} {k : Nat} {x : α} (hx : l[k]? = some x) : (l.take (k + 1)).any p = ((l.take k).any p || p x) := by rw [take_get hx]; simp
theorem all_take_succ {α : Type} {p : α → Bool} {l : List α} {k : Nat} {x : α} (hx : l[k]? = some x) : (l.take (k + 1)).all p = ((l.take k).all p && p x) := by rw [take_get hx]; simp
theorem all_false_of {α : Type} {p : α → Bool} {l : List α} {k : Nat} {x : α} (hx : l[k]? = some x) (hp : p x = false) : l.all p = false := by
  rw [List.all_eq_false]; exact ⟨x, List.mem_of_getElem? hx, by simp [hp]⟩
theorem all_take_end {α : Type} {p : α → Bool} {l : List α} {k : Nat} (hk : l.length ≤ k) : (l.take k).all p = l.all p := by rw [List.take_of_length_le hk]
def okV : Value → Prop
  | .int _ n => 32 ≤ n ∧ n ≤ 126
  | _ => False
theorem byteAt_get (s : ByteArray) (i : Nat) (h : i < s.size) : byteAt s i = ((s.get! i).toNat : Int) := by
  unfold byteAt
  have h1 : s[i]? = some s[i] := getElem?_pos s i h
  rw [h1]
  have : s.get! i = s[i] := by
    show s.data[i]! = s.data[i]
    exact getElem!_pos s.data i h
  rw [this]; rfl
theorem decode_small (s : ByteArray) (i : Nat) (h : (s.get! i).toNat < 128) : Utf8.decode s i = ((s.get! i).toNat, 1) := by
  unfold Utf8.decode
  simp [h]
theorem decode_big (s : ByteArray) (i : Nat) (h : 128 ≤ (s.get! i).toNat) : 128 ≤ (Utf8.decode s i).1 := by
  unfold Utf8.decode
  have h' : ¬ (s.get! i).toNat < 128 := by omega
  simp only [Nat.add_zero, h', if_false, Utf8.runeError]
  repeat' split
  all_goals simp_all
  all_goals omega
theorem runesFrom_ok (s : ByteArray) : ∀ (bound i : Nat) (acc : Array Value), s.size ≤ i + bound →
    ((∀ v ∈ (Conv.runesFrom s bound i acc).toList, okV v) ↔ (∀ v ∈ acc.toList, okV v) ∧ ∀ j, i ≤ j → j < s.size → 32 ≤ byteAt s j ∧ byteAt s j ≤ 126)
  | 0, i, acc, h => by
    simp only [Conv.runesFrom]
    exact ⟨fun q => ⟨q, fun j h1 h2 => by omega⟩, fun q => q.1⟩
  | bound + 1, i, acc, h => by
    unfold Conv.runesFrom
    by_cases hi : i < s.size
    · simp only [hi, if_true]
      rw [runesFrom_ok s bound _ _ (by
        by_cases hs : (s.get! i).toNat < 128
        · rw [decode_small s i hs]; simp; omega
        · have : 1 ≤ (Utf8.decode s i).2 := by
            unfold Utf8.decode
            simp only
            repeat' split
            all_goals simp
          omega)]
      by_cases hs : (s.get! i).toNat < 128
      · rw [decode_small s i hs]
        have hb := byteAt_get s i hi
        constructor
        · rintro ⟨q1, q2⟩
          refine ⟨fun v hv => q1 v (by simp at hv ⊢; exact .inl hv), fun j h1 h2 => ?_⟩
          rcases Nat.lt_or_ge i j with hj | hj
          · exact q2 j hj h2
          · have : j = i := by omega
            subst this
            have := q1 (.int .i32 (Int.ofNat (s.get! j).toNat)) (by simp)
            rw [hb]; exact this
        · rintro ⟨q1, q2⟩
          refine ⟨fun v hv => ?_, fun j h1 h2 => q2 j (by simp at h1; omega) h2⟩
          simp at hv
          rcases hv with hv | rfl
          · exact q1 v (by simpa using hv)
          · have := q2 i (Nat.le_refl _) hi
            rw [hb] at this; exact this
      · have h1 := decode_big s i (by omega)
        have hb := byteAt_get s i hi
        constructor
        · rintro ⟨q1, q2⟩
          have := q1 (.int .i32 (Int.ofNat (Utf8.decode s i).1)) (by simp)
          simp only [okV] at this
          have h2 := this.2
          simp only [Int.ofNat_eq_natCast] at h2
          omega
        · rintro ⟨q1, q2⟩
          have := q2 i (Nat.le_refl _) hi
          omega
    · simp only [hi, if_false]
      exact ⟨fun q => ⟨q, fun j h1 h2 => by omega⟩, fun q => q.1⟩
theorem textRunes (s : ByteArray) (h : s.size ≤ 200) : (runes s).any oddRune = !textOk s := by
  have hr := runesFrom_ok s s.size 0 #[] (by omega)
  have hint := runes_int s s.size 0 #[] (by simp)
  have h1 : (runes s).any oddRune = false ↔ ∀ v ∈ (Conv.runesFrom s s.size 0 #[]).toList, okV v := by
    rw [List.any_eq_false]
    unfold runes
    constructor
    · intro q v hv
      obtain ⟨n, rfl⟩ := hint v hv
      have := q ⟨n⟩ (List.mem_map.2 ⟨_, hv, rfl⟩)
      simp [oddRune] at this
      exact this
    · intro q r hr
      obtain ⟨v, hv, rfl⟩ := List.mem_map.1 hr
      obtain ⟨n, rfl⟩ := hint v hv
      have := q _ hv
      simp [oddRune]
      exact this
  have h2 : textOk s = true ↔ ∀ j, 0 ≤ j → j < s.size → 32 ≤ byteAt s j ∧ byteAt s j ≤ 126 := by
    unfold textOk
    simp only [h, decide_true, Bool.true_and, allUpTo, List.all_eq_true, List.mem_range, byteOk, Bool.and_eq_true, decide_eq_true_eq]
    exact ⟨fun q j _ hj => q j hj, fun q j hj => q j (by omega) hj⟩
  cases ht : textOk s with
  | true =>
    rw [Bool.not_true, h1, hr]
    exact ⟨by simp, fun j h3 h4 => h2.1 ht j h3 h4⟩
  | false =>
    rw [Bool.not_false]
    cases ha : (runes s).any oddRune with
    | true => rfl
    | false =>
      have := h2.2 (hr.1 (h1.1 ha)).2
      rw [ht] at this; cases this
theorem textOk_size {s : ByteArray} (h : textOk s = true) : s.size ≤ 200 := by
  simp only [textOk, Bool.and_eq_true, decide_eq_true_eq] at h; exact h.1
def wrongE (e : Event) : Bool := !eventOk e
def chain {α : Type} (r : α → α → Bool) : List α → Bool
  | [] => true
  | [_] => true
  | a :: b :: t => r a b && chain r (b :: t)
theorem chain_snoc {α : Type} (r : α → α → Bool) : ∀ (l : List α) (a b : α), chain r (l ++ [a] ++ [b]) = (chain r (l ++ [a]) && r a b)
  | [], a, b => by simp [chain]
  | [x], a, b => by simp [chain]
  | x :: y :: l, a, b => by
    have := chain_snoc r (y :: l) a b
    simp only [List.cons_append, chain] at this ⊢
    rw [this, Bool.and_assoc]
theorem chain_succ {α : Type} (r : α → α → Bool) {l : List α} {z : Nat} {q x : α} (hz : 0 < z) (hq : l[z - 1]? = some q) (hx : l[z]? = some x) : chain r (l.take (z + 1)) = (chain r (l.take z) && r q x) := by
  obtain ⟨k, rfl⟩ : ∃ k, z = k + 1 := ⟨z - 1, by omega⟩
  rw [take_get hx, take_get (k := k) (by simpa using hq), chain_snoc]
theorem chain_first {α : Type} (r : α → α → Bool) {l : List α} {z : Nat} (hz : ¬ 0 < z) : chain r (l.take (z + 1)) = true := by
  have : z = 0 := by omega
  subst this
  rcases l with _ | ⟨a, l⟩ <;> simp [chain]
theorem chain_app {α : Type} (r : α → α → Bool) : ∀ (l m : List α), chain r (l ++ m) = true → chain r l = true
  | [], _, _ => rfl
  | [x], _, _ => rfl
  | x :: y :: l, m, h => by
    simp only [List.cons_append, chain, Bool.and_eq_true] at h ⊢
    exact ⟨h.1, chain_app r (y :: l) m h.2⟩
theorem chain_bad {α : Type} (r : α → α → Bool) {l : List α} {z : Nat} {q x : α} (hz : 0 < z) (hq : l[z - 1]? = some q) (hx : l[z]? = some x) (hr : r q x = false) : chain r l = false := by
  have h := chain_succ r hz hq hx
  rw [hr, Bool.and_false] at h
  cases hc : chain r l with
  | false => rfl
  | true =>
    have := chain_app r (l.take (z + 1)) (l.drop (z + 1)) (by rw [List.take_append_drop]; exact hc)
    rw [h] at this; cases this
theorem chain_end {α : Type} (r : α → α → Bool) {l : List α} {z : Nat} (h : l.length ≤ z) : chain r (l.take z) = chain r l := by rw [List.take_of_length_le h]
def validE (l : List Event) : Bool := l.all eventOk && decide (l.length ≤ 20000) && chain before l
theorem prev_ex {α : Type} {l : List α} {z : Nat} (h : z ≤ l.length) : (¬ 0 < z) ∨ (0 < z ∧ ∃ q, l[z - 1]? = some q) := by
  by_cases hz : 0 < z
  · exact .inr ⟨hz, ex_get (by omega)⟩
  · exact .inl hz
theorem prev_enc {α : Type} [Enc α] {l : List α} {z : Nat} {q : α} (hz : 0 < z) (hq : l[z - 1]? = some q) : elAt (l.map Enc.enc) ((z : Int) - 1).toNat = Enc.enc q := by
  rw [show ((z : Int) - 1).toNat = z - 1 by omega]; exact elAt_enc hq
theorem order_before (a b : Event) : decide (0 ≤ order a b) = !before a b := by
  simp only [order, before, compare]; grind
theorem take_eq_succ {α : Type} {a b : List α} {z : Nat} {x y : α} (h : a.take z = b.take z) (hx : a[z]? = some x) (hy : b[z]? = some y) : a.take (z + 1) = b.take (z + 1) ↔ x = y := by
  rw [take_get hx, take_get hy, h]; simp
theorem take_eq_end {α : Type} {a b : List α} {z : Nat} (h : a.take z = b.take z) (ha : a.length ≤ z) (hl : a.length = b.length) : a = b := by
  rw [List.take_of_length_le ha, List.take_of_length_le (by omega)] at h; exact h
theorem ne_of_get {α : Type} {a b : List α} {z : Nat} {x y : α} (hx : a[z]? = some x) (hy : b[z]? = some y) (h : x ≠ y) : a ≠ b := by
  rintro rfl; rw [hx] at hy; exact h (Option.some.inj hy)
def known (s : Int) (l : List Event) : Int := l.foldl (fun m e => if e.kind = 3 ∧ e.stand = s then max m e.n else m) 0
theorem known_succ (s : Int) {l : List Event} {k : Nat} {x : Event} (hx : l[k]? = some x) : known s (l.take (k + 1)) = if x.kind = 3 ∧ x.stand = s then max (known s (l.take k)) x.n else known s (l.take k) := by
  rw [take_get hx]; simp [known]
theorem known_end (s : Int) {l : List Event} {k : Nat} (h : l.length ≤ k) : known s (l.take k) = known s l := by rw [List.take_of_length_le h]
def knownR (l : List Event) (s : Int) : Int × Int := if validE l && isID s then (known s l, 0) else (0, 1)
def putFrom (e : Event) (l : List Event) : Nat → Nat
  | 0 => 0
  | z + 1 => match l[z]? with
    | some q => if before e q then putFrom e l z else z + 1
    | none => z + 1
def put (l : List Event) (e : Event) : List Event :=
  if 0 < putFrom e l l.length ∧ l[putFrom e l l.length - 1]? = some e then l else l.take (putFrom e l l.length) ++ [e] ++ l.drop (putFrom e l l.length)
theorem putFrom_pos {e : Event} {l : List Event} {z : Nat} {q : Event} (hz : 0 < z) (hq : l[z - 1]? = some q) : putFrom e l z = if before e q then putFrom e l (z - 1) else z := by
  obtain ⟨k, rfl⟩ : ∃ k, z = k + 1 := ⟨z - 1, by omega⟩
  simp only [Nat.add_sub_cancel] at hq ⊢
  simp [putFrom, hq]
theorem put_zero {e : Event} {l : List Event} {z : Nat} (h : putFrom e l z = putFrom e l l.length) (hz : ¬ 0 < z) : put l e = l.take z ++ [e] ++ l.drop z := by
  have : z = 0 := by omega
  subst this
  have h : putFrom e l l.length = 0 := by rw [← h]; rfl
  simp [put, h]
theorem put_pos {e : Event} {l : List Event} {z : Nat} {q : Event} (h : putFrom e l z = putFrom e l l.length) (hz : 0 < z) (hq : l[z - 1]? = some q) (hb : before e q = false) : put l e = if q = e then l else l.take z ++ [e] ++ l.drop z := by
  have h1 : putFrom e l l.length = z := by rw [← h, putFrom_pos hz hq, if_neg (by rw [hb]; simp)]
  simp [put, h1, hz, hq]
theorem put_step {e : Event} {l : List Event} {z : Nat} {q : Event} (h : putFrom e l z = putFrom e l l.length) (hz : 0 < z) (hq : l[z - 1]? = some q) (hb : before e q = true) : putFrom e l (z - 1) = putFrom e l l.length := by
  rw [← h, putFrom_pos hz hq, if_pos hb]
theorem put_length (l : List Event) (e : Event) : (put l e).length ≤ l.length + 1 := by
  unfold put; split
  · omega
  · simp [List.length_take]; omega
theorem put_length' (l : List Event) (e : Event) : l.length ≤ (put l e).length := by
  unfold put; split
  · omega
  · simp [List.length_take]; omega
def made (c s v : Int) : Event := ⟨c, s, 1, 0, ⟨8, 4, 4, ⟨0, 0, 0⟩, 1, 5, v, ⟨#[]⟩⟩⟩
end Go.Proofs.Ytpbhcpeilgmkeaa

/-
  Walks of the events: printed by gen1.py.
-/
namespace Go.Proofs.Ytpbhcpeilgmkeaa
open Go Go.Eva Enc
variable [Drw]
set_option linter.unusedSectionVars false
set_option linter.unusedSimpArgs false
set_option linter.unusedVariables false
set_option maxRecDepth 4000
attribute [local congr] AWp.congrS
attribute [local simp] evalSeq opRes guardPc evalOp evT Eva.get startT strip putT Eva.after constT typed obAll holds dstOk R.ok R.bad ofD binD unD pickT subL subP Op.operands Call.operands toD argsD callD callT typedAll cfind quietT spec0 spec1 spec2 spec3 enc_int enc_bool enc_str enc_fn enc_list dec_int dec_bool dec_str dec_fn dec_list size_int size_str enc_R enc_M enc_E dec_R dec_M dec_E size_R size_M size_E eta_R eta_M eta_E enc_rune size_rune dec_rune eta_rune runesD_eq map_dec_enc map_dec_comp cellsT D.cells T.oneT D.one mkT unD1 setAt loadAs loadEl storeAs fieldP fieldV sizeE intOfT indexP appendT lenT sliceT elemSize arith lfsOk lfOk beqL_R beqL_M beqL_E beqL_R0 beqL_M0 isAggD mkD fillD placeS TD.agg env restr List.map keyIdx keysInt mapTy lookT mapPutT mapDelT mapOf indexS convT evalPure range1 range2 range3 range4 eqT4 eqT38 eqT40 eqT42 te1 te2 te3 te4 te5 te6 te7 te8 te9 te10 te11 te12 te13 te14 te15 te16 te17 te18 te19 te21 te22 te23 te24 te25 te27 te28 te29 te31 te32 te34 te35 te36 te37 te38 te39 te40 te41 te42 te43 te44 te45 te46 te47 te49 te50 te51 te52 te53 te54 te55 te56 te57 te59 te60 te61 te62 te63 te64 te65 te66 te67 te68 te69 te70 te71 te72 te73 te74 te75 te76 te77 te78 te79 te80 te82 te83 te84 te85 te86 te87 te88 te90 te91 te92 te94 te95 te96 te97 te98 te99 te100 te101 te102 te103 te104 te105 te106 te107 te108 te109 te110 te111 te112 te113 te114 te116 te117 te118 te119 te120 te121 te122 te123 te124 te125 te126 te127 te128 te129 te130 te131 te132 te133 te134

def sp46 : Eva.Spec := spec3 (fun (a : Int) (lo : Int) (hi : Int) => True) fun (a : Int) (lo : Int) (hi : Int) => enc (within a lo hi)
theorem ok46 : SpecOk Try.prog 46 sp46 := by
  have hV : VOk Try.prog (env []) := env_ok trivial
  refine SpecOk.of3 (Enters.of Try.func46 (by decide)) fun a lo hi hp => ?_
  refine PureCon.of hV Try.func46 rfl (by rw [Try.ntmps46]; simp) fun w0 I0 => ?_
  rw [Try.ntmps46]
  refine AWp.seqKL hV [0, 1, 2] ?_
  simp
  repeat refine And.intro (by first | omega | grind) ?_
  refine AWp.seqKL hV [6] ?_
  simp
  repeat refine And.intro (by first | omega | grind) ?_
  refine AWp.ret ?_
  simp [retOk, resT, thenQ, inBlockQ, within, *]
  all_goals first | omega | grind

def sp42 : Eva.Spec := spec3 (fun (a : Int) (lo : Int) (hi : Int) => True) fun (a : Int) (lo : Int) (hi : Int) => enc (within a lo hi)
theorem ok42 : SpecOk Try.prog 42 sp42 := by
  have hV : VOk Try.prog (env []) := env_ok trivial
  refine SpecOk.of3 (Enters.of Try.func42 (by decide)) fun a lo hi hp => ?_
  refine PureCon.of hV Try.func42 rfl (by rw [Try.ntmps42]; simp) fun w0 I0 => ?_
  rw [Try.ntmps42]
  refine AWp.seqKL hV [0, 1, 2] ?_
  simp
  repeat refine And.intro (by first | omega | grind) ?_
  refine AWp.seqKL hV [6] ?_
  simp
  repeat refine And.intro (by first | omega | grind) ?_
  refine AWp.ret ?_
  simp [retOk, resT, thenQ, inBlockQ, within, *]
  all_goals first | omega | grind

def sp60 : Eva.Spec := spec3 (fun (a : Int) (lo : Int) (hi : Int) => True) fun (a : Int) (lo : Int) (hi : Int) => enc (within a lo hi)
theorem ok60 : SpecOk Try.prog 60 sp60 := by
  have hV : VOk Try.prog (env []) := env_ok trivial
  refine SpecOk.of3 (Enters.of Try.func60 (by decide)) fun a lo hi hp => ?_
  refine PureCon.of hV Try.func60 rfl (by rw [Try.ntmps60]; simp) fun w0 I0 => ?_
  rw [Try.ntmps60]
  refine AWp.seqKL hV [0, 1, 2] ?_
  simp
  repeat refine And.intro (by first | omega | grind) ?_
  refine AWp.seqKL hV [6] ?_
  simp
  repeat refine And.intro (by first | omega | grind) ?_
  refine AWp.ret ?_
  simp [retOk, resT, thenQ, inBlockQ, within, *]
  all_goals first | omega | grind

def sp55 : Eva.Spec := spec3 (fun (a : Int) (lo : Int) (hi : Int) => True) fun (a : Int) (lo : Int) (hi : Int) => enc (within a lo hi)
theorem ok55 : SpecOk Try.prog 55 sp55 := by
  have hV : VOk Try.prog (env []) := env_ok trivial
  refine SpecOk.of3 (Enters.of Try.func55 (by decide)) fun a lo hi hp => ?_
  refine PureCon.of hV Try.func55 rfl (by rw [Try.ntmps55]; simp) fun w0 I0 => ?_
  rw [Try.ntmps55]
  refine AWp.seqKL hV [0, 1, 2] ?_
  simp
  repeat refine And.intro (by first | omega | grind) ?_
  refine AWp.seqKL hV [6] ?_
  simp
  repeat refine And.intro (by first | omega | grind) ?_
  refine AWp.ret ?_
  simp [retOk, resT, thenQ, inBlockQ, within, *]
  all_goals first | omega | grind

def sp40 : Eva.Spec := spec1 (fun (a : Int) => True) fun (a : Int) => enc (isID a)
theorem ok40 : SpecOk Try.prog 40 sp40 := by
  have hV : VOk Try.prog (env [(46, sp46)]) := env_ok ⟨ok46, trivial⟩
  refine SpecOk.of1 (Enters.of Try.func40 (by decide)) fun a hp => ?_
  refine PureCon.of hV Try.func40 rfl (by rw [Try.ntmps40]; simp) fun w0 I0 => ?_
  rw [Try.ntmps40]
  refine AWp.seqKL hV [0] ?_
  simp [sp46]
  repeat refine And.intro (by first | omega | grind) ?_
  refine AWp.seqKL hV [2] ?_
  simp [sp46]
  repeat refine And.intro (by first | omega | grind) ?_
  refine AWp.ret ?_
  simp [retOk, resT, thenQ, inBlockQ, isID, *]
  all_goals first | omega | grind

def sp59 : Eva.Spec := spec1 (fun (a : Int) => True) fun (a : Int) => enc (isID a)
theorem ok59 : SpecOk Try.prog 59 sp59 := by
  have hV : VOk Try.prog (env [(60, sp60)]) := env_ok ⟨ok60, trivial⟩
  refine SpecOk.of1 (Enters.of Try.func59 (by decide)) fun a hp => ?_
  refine PureCon.of hV Try.func59 rfl (by rw [Try.ntmps59]; simp) fun w0 I0 => ?_
  rw [Try.ntmps59]
  refine AWp.seqKL hV [0] ?_
  simp [sp60]
  repeat refine And.intro (by first | omega | grind) ?_
  refine AWp.seqKL hV [2] ?_
  simp [sp60]
  repeat refine And.intro (by first | omega | grind) ?_
  refine AWp.ret ?_
  simp [retOk, resT, thenQ, inBlockQ, isID, *]
  all_goals first | omega | grind

def sp23 : Eva.Spec := spec1 (fun (a : Int) => True) fun (a : Int) => enc (isID a)
theorem ok23 : SpecOk Try.prog 23 sp23 := by
  have hV : VOk Try.prog (env [(42, sp42)]) := env_ok ⟨ok42, trivial⟩
  refine SpecOk.of1 (Enters.of Try.func23 (by decide)) fun a hp => ?_
  refine PureCon.of hV Try.func23 rfl (by rw [Try.ntmps23]; simp) fun w0 I0 => ?_
  rw [Try.ntmps23]
  refine AWp.seqKL hV [0] ?_
  simp [sp42]
  repeat refine And.intro (by first | omega | grind) ?_
  refine AWp.seqKL hV [2] ?_
  simp [sp42]
  repeat refine And.intro (by first | omega | grind) ?_
  refine AWp.ret ?_
  simp [retOk, resT, thenQ, inBlockQ, isID, *]
  all_goals first | omega | grind

def sp56 : Eva.Spec := spec1 (fun (r : Reader) => True) fun (r : Reader) => enc (isReader r)
theorem ok56 : SpecOk Try.prog 56 sp56 := by
  have hV : VOk Try.prog (env [(23, sp23), (42, sp42)]) := env_ok ⟨ok23, ok42, trivial⟩
  refine SpecOk.of1 (Enters.of Try.func56 (by decide)) fun r hp => ?_
  refine PureCon.of hV Try.func56 rfl (by rw [Try.ntmps56]; simp) fun w0 I0 => ?_
  rw [Try.ntmps56]
  refine AWp.seqKL hV [1] ?_
  simp [sp23, sp42]
  repeat refine And.intro (by first | omega | grind) ?_
  refine AWp.seqKL hV [2] ?_
  simp [sp23, sp42]
  repeat refine And.intro (by first | omega | grind) ?_
  refine AWp.ret ?_
  simp [retOk, resT, thenQ, inBlockQ, isReader, *]
  all_goals first | omega | grind

def sp75 : Eva.Spec := spec1 (fun (r : Reader) => True) fun (r : Reader) => enc (isReader r)
theorem ok75 : SpecOk Try.prog 75 sp75 := by
  have hV : VOk Try.prog (env [(59, sp59), (60, sp60)]) := env_ok ⟨ok59, ok60, trivial⟩
  refine SpecOk.of1 (Enters.of Try.func75 (by decide)) fun r hp => ?_
  refine PureCon.of hV Try.func75 rfl (by rw [Try.ntmps75]; simp) fun w0 I0 => ?_
  rw [Try.ntmps75]
  refine AWp.seqKL hV [1] ?_
  simp [sp59, sp60]
  repeat refine And.intro (by first | omega | grind) ?_
  refine AWp.seqKL hV [2] ?_
  simp [sp59, sp60]
  repeat refine And.intro (by first | omega | grind) ?_
  refine AWp.ret ?_
  simp [retOk, resT, thenQ, inBlockQ, isReader, *]
  all_goals first | omega | grind

def sp72 : Eva.Spec := spec1 (fun (a : Int) => True) fun (a : Int) => enc false
theorem ok72 : SpecOk Try.prog 72 sp72 := by
  have hV : VOk Try.prog (env []) := env_ok trivial
  refine SpecOk.of1 (Enters.of Try.func72 (by decide)) fun a hp => ?_
  refine PureCon.of hV Try.func72 rfl (by rw [Try.ntmps72]; simp) fun w0 I0 => ?_
  rw [Try.ntmps72]
  refine AWp.seqKL hV [0] ?_
  simp
  repeat refine And.intro (by first | omega | grind) ?_
  refine AWp.seqKL hV [2] ?_
  simp
  repeat refine And.intro (by first | omega | grind) ?_
  refine AWp.ret ?_
  simp [retOk, resT, thenQ, inBlockQ, *]
  all_goals first | omega | grind

def sp51 : Eva.Spec := spec2 (fun (a : Int) (b : Int) => True) fun (a : Int) (b : Int) => enc (compare a b)
theorem ok51 : SpecOk Try.prog 51 sp51 := by
  have hV : VOk Try.prog (env [(72, sp72)]) := env_ok ⟨ok72, trivial⟩
  refine SpecOk.of2 (Enters.of Try.func51 (by decide)) fun a b hp => ?_
  refine PureCon.of hV Try.func51 rfl (by rw [Try.ntmps51]; simp) fun w0 I0 => ?_
  rw [Try.ntmps51]
  refine AWp.seqKL hV [0, 1] ?_
  simp [sp72]
  repeat refine And.intro (by first | omega | grind) ?_
  refine AWp.seqKL hV [0, 1, 5] ?_
  simp [sp72]
  repeat refine And.intro (by first | omega | grind) ?_
  refine AWp.seqKL hV [0, 1, 5, 6] ?_
  simp [sp72]
  repeat refine And.intro (by first | omega | grind) ?_
  refine AWp.seq ?_
  refine AWp.seqKL hV [0, 1, 6, 11] ?_
  simp [sp72]
  repeat refine And.intro (by first | omega | grind) ?_
  refine AWp.cond rfl (fun h1 => ?_) fun h1 => ?_
  · simp at h1
  · try simp at h1
    refine AWp.skip ?_
    try simp only [thenQ, inBlockQ]
    refine AWp.seq ?_
    refine AWp.seqKL hV [0, 1, 13] ?_
    simp [sp72]
    repeat refine And.intro (by first | omega | grind) ?_
    refine AWp.cond rfl (fun h2 => ?_) fun h2 => ?_
    · simp at h2
    · try simp at h2
      refine AWp.skip ?_
      try simp only [thenQ, inBlockQ]
      refine AWp.seq ?_
      refine AWp.seqKL hV [0, 1, 16] ?_
      simp [sp72]
      repeat refine And.intro (by first | omega | grind) ?_
      refine AWp.cond rfl (fun h3 => ?_) fun h3 => ?_
      · try simp at h3
        refine AWp.seqKL hV [4] ?_
        simp [sp72]
        repeat refine And.intro (by first | omega | grind) ?_
        refine AWp.ret ?_
        simp [retOk, resT, thenQ, inBlockQ, compare, *]
        all_goals first | omega | grind
      · try simp at h3
        refine AWp.skip ?_
        try simp only [thenQ, inBlockQ]
        refine AWp.seq ?_
        refine AWp.seqKL hV [19] ?_
        simp [sp72]
        repeat refine And.intro (by first | omega | grind) ?_
        refine AWp.cond rfl (fun h4 => ?_) fun h4 => ?_
        · try simp at h4
          refine AWp.seqKL hV [4] ?_
          simp [sp72]
          repeat refine And.intro (by first | omega | grind) ?_
          refine AWp.ret ?_
          simp [retOk, resT, thenQ, inBlockQ, compare, *]
          all_goals first | omega | grind
        · try simp at h4
          refine AWp.skip ?_
          try simp only [thenQ, inBlockQ]
          refine AWp.seqKL hV [4] ?_
          simp [sp72]
          repeat refine And.intro (by first | omega | grind) ?_
          refine AWp.ret ?_
          simp [retOk, resT, thenQ, inBlockQ, compare, *]
          all_goals first | omega | grind

def sp37 : Eva.Spec := spec2 (fun (a : Event) (b : Event) => True) fun (a : Event) (b : Event) => enc (before a b)
theorem ok37 : SpecOk Try.prog 37 sp37 := by
  have hV : VOk Try.prog (env []) := env_ok trivial
  refine SpecOk.of2 (Enters.of Try.func37 (by decide)) fun a b hp => ?_
  refine PureCon.of hV Try.func37 rfl (by rw [Try.ntmps37]; simp) fun w0 I0 => ?_
  rw [Try.ntmps37]
  refine AWp.seqKL hV [2, 3] ?_
  simp
  repeat refine And.intro (by first | omega | grind) ?_
  refine AWp.seqKL hV [4] ?_
  simp
  repeat refine And.intro (by first | omega | grind) ?_
  refine AWp.ret ?_
  simp [retOk, resT, thenQ, inBlockQ, before, *]
  all_goals first | omega | grind

def sp35 : Eva.Spec := spec2 (fun (a : Event) (b : Event) => True) fun (a : Event) (b : Event) => enc (forks a b)
theorem ok35 : SpecOk Try.prog 35 sp35 := by
  have hV : VOk Try.prog (env []) := env_ok trivial
  refine SpecOk.of2 (Enters.of Try.func35 (by decide)) fun a b hp => ?_
  refine PureCon.of hV Try.func35 rfl (by rw [Try.ntmps35]; simp) fun w0 I0 => ?_
  rw [Try.ntmps35]
  refine AWp.seqKL hV [2, 3] ?_
  simp
  repeat refine And.intro (by first | omega | grind) ?_
  refine AWp.seqKL hV [4] ?_
  simp
  repeat refine And.intro (by first | omega | grind) ?_
  refine AWp.ret ?_
  simp [retOk, resT, thenQ, inBlockQ, forks, *]
  all_goals first | omega | grind

def sp22 : Eva.Spec := spec1 (fun (a : Event) => True) fun (a : Event) => enc (about a)
theorem ok22 : SpecOk Try.prog 22 sp22 := by
  have hV : VOk Try.prog (env []) := env_ok trivial
  refine SpecOk.of1 (Enters.of Try.func22 (by decide)) fun a hp => ?_
  refine PureCon.of hV Try.func22 rfl (by rw [Try.ntmps22]; simp) fun w0 I0 => ?_
  rw [Try.ntmps22]
  refine AWp.seqKL hV [1] ?_
  simp
  repeat refine And.intro (by first | omega | grind) ?_
  refine AWp.seq ?_
  refine AWp.seqKL hV [1, 5] ?_
  simp
  repeat refine And.intro (by first | omega | grind) ?_
  refine AWp.cond rfl (fun h1 => ?_) fun h1 => ?_
  · try simp at h1
    refine AWp.seqKL hV [2] ?_
    simp
    repeat refine And.intro (by first | omega | grind) ?_
    refine AWp.ret ?_
    simp [retOk, resT, thenQ, inBlockQ, about, *]
    all_goals first | omega | grind
  · try simp at h1
    refine AWp.skip ?_
    try simp only [thenQ, inBlockQ]
    refine AWp.seq ?_
    refine AWp.seqKL hV [1, 11] ?_
    simp
    repeat refine And.intro (by first | omega | grind) ?_
    refine AWp.cond rfl (fun h2 => ?_) fun h2 => ?_
    · try simp at h2
      refine AWp.seqKL hV [2] ?_
      simp
      repeat refine And.intro (by first | omega | grind) ?_
      refine AWp.ret ?_
      simp [retOk, resT, thenQ, inBlockQ, about, *]
      all_goals first | omega | grind
    · try simp at h2
      refine AWp.skip ?_
      try simp only [thenQ, inBlockQ]
      refine AWp.seqKL hV [2] ?_
      simp
      repeat refine And.intro (by first | omega | grind) ?_
      refine AWp.ret ?_
      simp [retOk, resT, thenQ, inBlockQ, about, *]
      all_goals first | omega | grind

def sp10 : Eva.Spec := spec1 (fun (l : List Event) => True) fun (l : List Event) => enc (decide (l.length ≤ 60))
theorem ok10 : SpecOk Try.prog 10 sp10 := by
  have hV : VOk Try.prog (env []) := env_ok trivial
  refine SpecOk.of1 (Enters.of Try.func10 (by decide)) fun l hp => ?_
  refine PureCon.of hV Try.func10 rfl (by rw [Try.ntmps10]; simp) fun w0 I0 => ?_
  rw [Try.ntmps10]
  refine AWp.seqKL hV [0] ?_
  simp
  repeat refine And.intro (by first | omega | grind) ?_
  refine AWp.seqKL hV [2] ?_
  simp
  repeat refine And.intro (by first | omega | grind) ?_
  refine AWp.ret ?_
  simp [retOk, resT, thenQ, inBlockQ, *]
  all_goals first | omega | grind
end Go.Proofs.Ytpbhcpeilgmkeaa
