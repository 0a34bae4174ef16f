/-
  The evaluator, the printed walks and the plain laws, part 3 of 12.
-/
import Derived.Test.YtpbhcpeilgmkeaaX2
import Derived.Deep.LoopGhost
import Derived.KernelRfl
set_option linter.all false
set_option linter.unnecessarySimpa false
set_option linter.deprecated false
set_option linter.unusedVariables false
set_option linter.unusedSimpArgs false
set_option linter.unusedSectionVars false

/-
  Eva, part O: regions that draw their order.
-/
namespace Go.Eva
open Go Go.RowKit
variable [Drw]

/-- The indices that an operation waits for. -/
def waits (o : Oper) : List Nat := (o.after.toList.filter (Region.binds .any)).map (·.on)
def tmpsOf (o : Oper) : List Nat := o.op.operands.toList.filterMap fun | .tmp t => some t | _ => none
/-- The slots that an operation reads: its operands, and its guard's. -/
def readsOf (ops : List Oper) (o : Oper) : List Nat := tmpsOf o ++ (match o.guard with | some (j, _) => ((ops[j]?).bind (·.dst)).toList | none => [])

/-- Everything waits for earlier ones alone. -/
def lexOk (ops : List Oper) : Bool := (List.range ops.length).all fun i => match ops[i]? with | some o => (waits o).all (· < i) | none => true
/-- From n1 on each waits for all before it. -/
def tailOk (ops : List Oper) (n1 : Nat) : Bool := (List.range ops.length).all fun i => decide (i < n1) || match ops[i]? with | some o => (List.range i).all (fun j => (waits o).contains j) | none => true
/-- The pure part: each of its slots is written once; who reads a slot that it writes waits for the writer. -/
def pureOk (ops : List Oper) (n1 : Nat) : Bool := (List.range n1).all fun i => match ops[i]? with
  | some o => (List.range n1).all fun j => match ops[j]? with
    | some q => (match q.dst with
      | some d => (decide (i = j) || o.dst != some d) && (!(readsOf ops o).contains d || (decide (j < i) && (waits o).contains j))
      | none => true)
    | none => true
  | none => false

/-- The length of the pure part: the least from which on each waits for all before it. -/
def splitAt (ops : List Oper) : Nat := ((List.range (ops.length + 1)).find? (tailOk ops)).getD ops.length

def evalPure (V : Env) (n : Nat) (ops : List Oper) (md : Way) (l0 : List AO) : List Oper → (k : Nat) → Tm → List (Nat × AO) → (Tm → List (Nat × AO) → Prop) → Prop
  | [], _, tm, news, K => K tm news
  | o :: r, k, tm, news, K =>
    match guardPc ops tm o.guard with
    | none => False
    | some pc =>
      match md with
      | none =>
        let ρ := fun x => strip pc (evT tm x)
        (match evalOp V (fun x => (ρ x).1) l0 (l0.length + news.length) o with
        | ⟨t, eff, ob⟩ =>
          (holds pc → ob ∧ obAll (o.op.operands.toList.map fun x => (ρ x).2)) ∧ dstOk n o.dst = true ∧
          match pc, eff with
          | [], .none => evalPure V n ops md l0 r (k + 1) (putT tm o.dst t) news K
          | [], .new a => evalPure V n ops md l0 r (k + 1) (putT tm o.dst t) (news ++ [(k, a)]) K
          | pc, .none => evalPure V n ops md l0 r (k + 1) (putT tm o.dst (.cond pc t)) news K
          | _, _ => False)
      | some sk =>
        if skips sk o.dst = true then o.guard.isSome = true ∧ (holds pc → False) ∧ dstOk n o.dst = true ∧ evalPure V n ops md l0 r (k + 1) (putT tm o.dst gone) news K
        else holds pc ∧ (match evalOp V (fun x => (strip [] (evT tm x)).1) l0 (l0.length + news.length) o with
        | ⟨t, eff, ob⟩ =>
          (ob ∧ obAll (o.op.operands.toList.map fun x => (strip [] (evT tm x)).2)) ∧ dstOk n o.dst = true ∧
          match eff with
          | .none => evalPure V n ops md l0 r (k + 1) (putT tm o.dst t) news K
          | .new a => evalPure V n ops md l0 r (k + 1) (putT tm o.dst t) (news ++ [(k, a)]) K
          | _ => False)

def evalDraw (V : Env) (n : Nat) (ops : List Oper) (s : St) (K : St → Prop) : Prop :=
  lexOk ops = true ∧ tailOk ops (splitAt ops) = true ∧ pureOk ops (splitAt ops) = true ∧ splitAt ops ≤ ops.length ∧
  evalPure V n ops none s.l (ops.take (splitAt ops)) 0 s.t [] fun tm news => evalSeq V n ops none (ops.drop (splitAt ops)) ⟨tm, s.l ++ news.map (·.2)⟩ K

/-- What the walk through the pure part says of each operation. -/
structure Rec where
  tm : Tm
  pc : PC
  t : T
  ob : Prop
  new : Option AO
  nid : Nat

def Rec.out (r : Rec) : T := if r.pc = [] then r.t else .cond r.pc r.t

structure RecOk (V : Env) (n : Nat) (ops : List Oper) (l0 : List AO) (o : Oper) (r : Rec) : Prop where
  guard : ∃ qc, guardPc ops r.tm o.guard = some qc ∧ (holds qc ↔ holds r.pc)
  gnone : o.guard = none → r.pc = []
  res : holds r.pc → evalOp V (fun x => (strip r.pc (evT r.tm x)).1) l0 r.nid o = ⟨r.t, (match r.new with | some a => .new a | none => .none), r.ob⟩
  ob : holds r.pc → r.ob ∧ obAll (o.op.operands.toList.map fun x => (strip r.pc (evT r.tm x)).2)
  dst : dstOk n o.dst = true
  new : r.new.isSome = true → r.pc = []
  gone : ¬ holds r.pc → r.new = none

def newsOf : Nat → List Rec → List (Nat × AO)
  | _, [] => []
  | k, r :: rs => (match r.new with | some a => [(k, a)] | none => []) ++ newsOf (k + 1) rs
def tmOf : Tm → List Oper → List Rec → Tm
  | tm, o :: os, r :: rs => tmOf (putT tm o.dst r.out) os rs
  | tm, _, _ => tm

/-- The records, one behind the other. -/
def RecsOk (V : Env) (n : Nat) (ops : List Oper) (l0 : List AO) : List Oper → Nat → Tm → Nat → List Rec → Prop
  | [], _, _, _, rs => rs = []
  | o :: os, k, tm, c, rs => ∃ r rs', rs = r :: rs' ∧ r.tm = tm ∧ r.nid = l0.length + c ∧ RecOk V n ops l0 o r ∧ RecsOk V n ops l0 os (k + 1) (putT tm o.dst r.out) (c + (if r.new.isSome then 1 else 0)) rs'

theorem evalPure_recs {V : Env} {n : Nat} {ops : List Oper} {md : Way} {l0 : List AO} {K : Tm → List (Nat × AO) → Prop} : ∀ (r : List Oper) (k : Nat) (tm : Tm) (news : List (Nat × AO)), evalPure V n ops md l0 r k tm news K →
    ∃ rs, RecsOk V n ops l0 r k tm news.length rs ∧ K (tmOf tm r rs) (news ++ newsOf k rs)
  | [], k, tm, news, h => ⟨[], rfl, by simpa [tmOf, newsOf, evalPure] using h⟩
  | o :: r, k, tm, news, h => by
    simp only [evalPure] at h
    split at h
    · exact h.elim
    · rename_i pc hg
      have hgn : o.guard = none → pc = [] := fun e => by rw [e] at hg; simpa [guardPc] using hg.symm
      cases md with
      | none =>
        simp only at h
        generalize hres : evalOp V (fun x => (strip pc (evT tm x)).1) l0 (l0.length + news.length) o = res at h
        obtain ⟨t, eff, ob⟩ := res
        simp only at h
        obtain ⟨hob, hdst, h⟩ := h
        split at h
        · obtain ⟨rs, h1, h2⟩ := evalPure_recs r (k + 1) _ _ h
          refine ⟨⟨tm, [], t, ob, none, l0.length + news.length⟩ :: rs, ⟨_, rs, rfl, rfl, rfl, ⟨⟨_, hg, Iff.rfl⟩, fun _ => rfl, fun _ => hres, hob, hdst, by simp, fun _ => rfl⟩, by simpa [Rec.out] using h1⟩, ?_⟩
          simpa [tmOf, newsOf, Rec.out] using h2
        · rename_i a
          obtain ⟨rs, h1, h2⟩ := evalPure_recs r (k + 1) _ _ h
          refine ⟨⟨tm, [], t, ob, some a, l0.length + news.length⟩ :: rs, ⟨_, rs, rfl, rfl, rfl, ⟨⟨_, hg, Iff.rfl⟩, fun _ => rfl, fun _ => hres, hob, hdst, by simp, fun h => (h trivial).elim⟩, by simpa [Rec.out] using h1⟩, ?_⟩
          simpa [tmOf, newsOf, Rec.out] using h2
        · rename_i hne
          obtain ⟨rs, h1, h2⟩ := evalPure_recs r (k + 1) _ _ h
          have hpc : pc ≠ [] := fun e => hne e
          refine ⟨⟨tm, pc, t, ob, none, l0.length + news.length⟩ :: rs, ⟨_, rs, rfl, rfl, rfl, ⟨⟨_, hg, Iff.rfl⟩, hgn, fun _ => hres, hob, hdst, by simp, fun _ => rfl⟩, by simpa [Rec.out, hpc] using h1⟩, ?_⟩
          simpa [tmOf, newsOf, Rec.out, hpc] using h2
        · exact h.elim
      | some sk =>
        simp only at h
        split at h
        · obtain ⟨hgs, hno, hdst, h⟩ := h
          obtain ⟨rs, h1, h2⟩ := evalPure_recs r (k + 1) _ _ h
          have hfalse : ¬ holds [((0 : Nat), true, false)] := by simp [holds]
          refine ⟨⟨tm, [(0, true, false)], .undef, True, none, l0.length + news.length⟩ :: rs, ⟨_, rs, rfl, rfl, rfl, ⟨⟨_, hg, ⟨fun h => (hno h).elim, fun h => (hfalse h).elim⟩⟩, fun e => (by rw [e] at hgs; cases hgs), fun h => (hfalse h).elim, fun h => (hfalse h).elim, hdst, by simp, fun _ => rfl⟩, by simpa [Rec.out, gone] using h1⟩, ?_⟩
          simpa [tmOf, newsOf, Rec.out, gone] using h2
        · obtain ⟨hyes, h⟩ := h
          generalize hres : evalOp V (fun x => (strip [] (evT tm x)).1) l0 (l0.length + news.length) o = res at h
          obtain ⟨t, eff, ob⟩ := res
          simp only at h
          obtain ⟨hob, hdst, h⟩ := h
          split at h
          · obtain ⟨rs, h1, h2⟩ := evalPure_recs r (k + 1) _ _ h
            refine ⟨⟨tm, [], t, ob, none, l0.length + news.length⟩ :: rs, ⟨_, rs, rfl, rfl, rfl, ⟨⟨_, hg, ⟨fun _ => trivial, fun _ => hyes⟩⟩, fun _ => rfl, fun _ => hres, fun _ => hob, hdst, by simp, fun _ => rfl⟩, by simpa [Rec.out] using h1⟩, ?_⟩
            simpa [tmOf, newsOf, Rec.out] using h2
          · rename_i a
            obtain ⟨rs, h1, h2⟩ := evalPure_recs r (k + 1) _ _ h
            refine ⟨⟨tm, [], t, ob, some a, l0.length + news.length⟩ :: rs, ⟨_, rs, rfl, rfl, rfl, ⟨⟨_, hg, ⟨fun _ => trivial, fun _ => hyes⟩⟩, fun _ => rfl, fun _ => hres, fun _ => hob, hdst, by simp, fun h => (h trivial).elim⟩, by simpa [Rec.out] using h1⟩, ?_⟩
            simpa [tmOf, newsOf, Rec.out] using h2
          · exact h.elim

theorem RecsOk.len {V : Env} {n : Nat} {ops : List Oper} {l0 : List AO} : ∀ {r : List Oper} {k : Nat} {tm : Tm} {c : Nat} {rs : List Rec}, RecsOk V n ops l0 r k tm c rs → rs.length = r.length
  | [], _, _, _, rs, h => by simp only [RecsOk] at h; subst h; rfl
  | o :: r, k, tm, c, rs, h => by
    obtain ⟨x, rs', rfl, _, _, _, h'⟩ := h
    simp [h'.len]

/-- What the slot t holds when operation number k + i comes up. -/
def slotAt (tm : Tm) (r : List Oper) (rs : List Rec) (i : Nat) (t : Nat) : T := get (tmOf tm (r.take i) (rs.take i)) t

theorem RecsOk.at_ {V : Env} {n : Nat} {ops : List Oper} {l0 : List AO} : ∀ {r : List Oper} {k : Nat} {tm : Tm} {c : Nat} {rs : List Rec}, RecsOk V n ops l0 r k tm c rs → ∀ (i : Nat) o x, r[i]? = some o → rs[i]? = some x →
    RecOk V n ops l0 o x ∧ x.tm = tmOf tm (r.take i) (rs.take i) ∧ x.nid = l0.length + c + (newsOf k (rs.take i)).length
  | [], _, _, _, rs, h, i, o, x, ho, hx => by simp at ho
  | q :: r, k, tm, c, rs, h, i, o, x, ho, hx => by
    obtain ⟨y, rs', rfl, h1, h2, h3, h4⟩ := h
    rcases i with _ | i
    · simp at ho hx; subst ho; subst hx
      exact ⟨h3, by simp [tmOf]; exact h1, by simp [newsOf]; omega⟩
    · simp at ho hx
      obtain ⟨g1, g2, g3⟩ := h4.at_ i o x ho hx
      refine ⟨g1, by simpa [tmOf] using g2, ?_⟩
      rw [g3]
      cases hn : y.new <;> simp [newsOf, hn] <;> omega

/-- A slot that no operation of the list writes. -/
theorem get_tmOf_other : ∀ (r : List Oper) (rs : List Rec) (tm : Tm) (t : Nat), (∀ o ∈ r, o.dst ≠ some t) → get (tmOf tm r rs) t = get tm t
  | [], rs, tm, t, _ => by cases rs <;> rfl
  | o :: r, [], tm, t, _ => rfl
  | o :: r, x :: rs, tm, t, h => by
    simp only [tmOf]
    rw [get_tmOf_other r rs _ t (fun q hq => h q (by simp [hq]))]
    have := h o (by simp)
    cases hd : o.dst with
    | none => rfl
    | some d => simp only [putT, get_put]; rw [if_neg (fun e => this (by rw [hd, e]))]

/-- A slot that just one operation writes. -/
theorem get_tmOf_at : ∀ (r : List Oper) (rs : List Rec) (tm : Tm) (t i : Nat) (o : Oper) (x : Rec), r[i]? = some o → rs[i]? = some x → o.dst = some t → (∀ j q, r[j]? = some q → j ≠ i → q.dst ≠ some t) → get (tmOf tm r rs) t = x.out
  | [], rs, tm, t, i, o, x, ho, _, _, _ => by simp at ho
  | q :: r, [], tm, t, i, o, x, _, hx, _, _ => by simp at hx
  | q :: r, y :: rs, tm, t, i, o, x, ho, hx, hd, hu => by
    simp only [tmOf]
    rcases i with _ | i
    · simp at ho hx; subst ho; subst hx
      rw [get_tmOf_other r rs _ t (fun q' hq' => by
        obtain ⟨j, hj, rfl⟩ := List.mem_iff_getElem.1 hq'
        exact hu (j + 1) _ (by simpa using List.getElem?_eq_getElem hj) (by omega))]
      rw [hd]; simp [putT, get_put]
    · simp at ho hx
      exact get_tmOf_at r rs _ t i o x ho hx hd (fun j q' hq' hj => hu (j + 1) q' (by simpa using hq') (by omega))

/-- The news: indices rise, and each belongs to its record. -/
theorem newsOf_spec : ∀ (rs : List Rec) (k : Nat), (∀ p ∈ newsOf k rs, k ≤ p.1 ∧ p.1 < k + rs.length) ∧ (∀ (i : Nat) x a, rs[i]? = some x → x.new = some a → (newsOf k rs)[(newsOf k (rs.take i)).length]? = some (k + i, a)) ∧
    (∀ (p q : Nat) x y, (newsOf k rs)[p]? = some x → (newsOf k rs)[q]? = some y → x.1 = y.1 → p = q)
  | [], k => by simp [newsOf]
  | r :: rs, k => by
    obtain ⟨h1, h2, h3⟩ := newsOf_spec rs (k + 1)
    cases hn : r.new with
    | none =>
      simp only [newsOf, hn, List.nil_append]
      refine ⟨fun p hp => by have := h1 p hp; simp; omega, fun i x a hx ha => ?_, h3⟩
      rcases i with _ | i
      · simp at hx; subst hx; rw [hn] at ha; cases ha
      · simp at hx
        have := h2 i x a hx ha
        simp only [List.take_succ_cons, newsOf, hn, List.nil_append]
        rw [this]; congr 2; omega
    | some b =>
      simp only [newsOf, hn, List.cons_append, List.nil_append]
      refine ⟨fun p hp => ?_, fun i x a hx ha => ?_, fun p q x y hx hy he => ?_⟩
      · rcases List.mem_cons.1 hp with rfl | hp
        · simp
        · have := h1 p hp; simp; omega
      · rcases i with _ | i
        · simp at hx; subst hx; rw [hn] at ha; injection ha with ha; subst ha; simp [newsOf]
        · simp at hx
          have := h2 i x a hx ha
          simp only [List.take_succ_cons, newsOf, hn, List.cons_append, List.nil_append, List.length_cons, List.getElem?_cons_succ]
          rw [this]; congr 2; omega
      · rcases p with _ | p <;> rcases q with _ | q
        · rfl
        · simp at hx hy; subst hx
          have := (h1 y (List.mem_of_getElem? hy)).1; simp at he; omega
        · simp at hx hy; subst hy
          have := (h1 x (List.mem_of_getElem? hx)).1; simp at he; omega
        · simp at hx hy
          rw [h3 p q x y hx hy he]

theorem newsOf_mem : ∀ (rs : List Rec) (k : Nat) p, p ∈ newsOf k rs → ∃ i x, p.1 = k + i ∧ rs[i]? = some x ∧ x.new = some p.2
  | [], k, p, h => by simp [newsOf] at h
  | r :: rs, k, p, h => by
    simp only [newsOf, List.mem_append] at h
    rcases h with h | h
    · cases hn : r.new with
      | none => simp [hn] at h
      | some a => simp [hn] at h; subst h; exact ⟨0, r, rfl, rfl, hn⟩
    · obtain ⟨i, x, h1, h2, h3⟩ := newsOf_mem rs (k + 1) p h
      exact ⟨i + 1, x, by omega, by simpa using h2, h3⟩

/-- The objects while some of the new ones are still to come. -/
def objsAt (l0 : List AO) (news : List (Nat × AO)) (L : Nat → Bool) : List AO := l0 ++ news.map fun p => if L p.1 = true then p.2 else .dead

theorem objsAt_get {l0 : List AO} {news : List (Nat × AO)} {L : Nat → Bool} {p : Nat} {k : Nat} {a : AO} (h : news[p]? = some (k, a)) : (objsAt l0 news L)[l0.length + p]? = some (if L k = true then a else .dead) := by
  unfold objsAt
  rw [List.getElem?_append_right (by omega), Nat.add_sub_cancel_left, List.getElem?_map, h]; rfl
theorem objsAt_com {l0 : List AO} {news : List (Nat × AO)} {L : Nat → Bool} : Com l0 (objsAt l0 news L) := fun _ hid => List.getElem?_append_left hid
theorem objsAt_set {l0 : List AO} {news : List (Nat × AO)} {L L' : Nat → Bool} {p k : Nat} {a : AO} (h : news[p]? = some (k, a)) (hu : ∀ q x, news[q]? = some x → x.1 = k → q = p) (hL : ∀ j, L' j = if j = k then true else L j) :
    (objsAt l0 news L).set (l0.length + p) a = objsAt l0 news L' := by
  apply List.ext_getElem?
  intro i
  rw [List.getElem?_set]
  by_cases hi : l0.length + p = i
  · subst hi
    rw [if_pos rfl, if_pos (by unfold objsAt; have := (List.getElem?_eq_some_iff.1 h).1; simp; omega), objsAt_get h, hL k]; simp
  · rw [if_neg hi]
    unfold objsAt
    by_cases h0 : i < l0.length
    · rw [List.getElem?_append_left h0, List.getElem?_append_left h0]
    · rw [List.getElem?_append_right (by omega), List.getElem?_append_right (by omega), List.getElem?_map, List.getElem?_map]
      cases hx : news[i - l0.length]? with
      | none => rfl
      | some x =>
        have : x.1 ≠ k := fun e => hi (by have := hu _ x hx e; omega)
        simp [hL, this]
theorem objsAt_same {l0 : List AO} {news : List (Nat × AO)} {L L' : Nat → Bool} (h : ∀ x ∈ news, L x.1 = L' x.1) : objsAt l0 news L = objsAt l0 news L' := by
  unfold objsAt
  congr 1
  apply List.map_congr_left
  intro x hx
  rw [h x hx]

end Go.Eva

/-
  Eva, part P: a region that draws is as its text's order says.
-/
namespace Go.Eva
open Go Go.RowKit
variable [Drw]

theorem filter_drop_one {α : Type} [DecidableEq α] : ∀ (l : List α) (f : α → Bool) (i : α), l.Nodup → i ∈ l → f i = true → (l.filter fun k => f k && decide (k ≠ i)).length + 1 = (l.filter f).length
  | [], f, i, _, hi, _ => by cases hi
  | x :: l, f, i, hn, hi, hf => by
    have hx : x ∉ l := (List.nodup_cons.1 hn).1
    by_cases h : x = i
    · subst h
      have : l.filter (fun k => f k && decide (k ≠ x)) = l.filter f := by
        apply List.filter_congr
        intro k hk
        have : k ≠ x := fun e => hx (e ▸ hk)
        simp [this]
      have := congrArg List.length this
      simp at this
      simp [hf, this]
    · have hi' : i ∈ l := by
        rcases List.mem_cons.1 hi with e | e
        · exact absurd e.symm h
        · exact e
      have ih := filter_drop_one l f i (List.nodup_cons.1 hn).2 hi' hf
      cases hfx : f x <;> simp [hfx, h] <;> simp at ih <;> omega

def unl (N : Nat) (listed : Array Bool) : Nat := ((List.range N).filter fun i => !listed.getD i false).length
theorem unl_set {N i : Nat} {listed : Array Bool} (hs : listed.size = N) (hi : i < N) (hu : listed.getD i false = false) : unl N (listed.setIfInBounds i true) + 1 = unl N listed := by
  unfold unl
  rw [← filter_drop_one (List.range N) (fun i => !listed.getD i false) i List.nodup_range (List.mem_range.2 hi) (by simp only [hu]; rfl)]
  congr 2
  apply List.filter_congr
  intro k hk
  have hk := List.mem_range.1 hk
  simp only [Array.getD_eq_getD_getElem?, Array.getElem?_setIfInBounds]
  by_cases h : i = k
  · subst h; simp [hs, hi]
  · simp [h, Ne.symm h]
theorem getD_set {N i k : Nat} {listed : Array Bool} (hs : listed.size = N) (hi : i < N) : (listed.setIfInBounds i true).getD k false = if k = i then true else listed.getD k false := by
  simp only [Array.getD_eq_getD_getElem?, Array.getElem?_setIfInBounds]
  by_cases h : i = k
  · subst h; simp [hs, hi]
  · simp [h, Ne.symm h]
theorem getD_tf {N i : Nat} {listed : Array Bool} (hs : listed.size = N) (hi : i < N) : listed.getD i true = listed.getD i false := by
  simp [Array.getD_eq_getD_getElem?, Array.getElem?_eq_getElem (show i < listed.size by omega)]

section
variable {P : Program} {V : Env} {w0 : World} {I0 : Imm} {n : Nat} {md : Way} {ops : List Oper} {Q : Exit → Act → World → Prop} {K : St → Prop}

theorem lex_at (h : lexOk ops = true) {i : Nat} {o : Oper} (ho : ops[i]? = some o) : ∀ j ∈ waits o, j < i := by
  have := List.all_eq_true.1 h i (List.mem_range.2 (List.getElem?_eq_some_iff.1 ho).1)
  simp only [ho, List.all_eq_true, decide_eq_true_eq] at this
  exact this
theorem tail_at {n1 : Nat} (h : tailOk ops n1 = true) {i : Nat} {o : Oper} (ho : ops[i]? = some o) (hi : n1 ≤ i) : ∀ j, j < i → j ∈ waits o := by
  intro j hj
  have := List.all_eq_true.1 h i (List.mem_range.2 (List.getElem?_eq_some_iff.1 ho).1)
  simp only [ho, Bool.or_eq_true, decide_eq_true_eq, List.all_eq_true, List.mem_range, List.contains_iff_mem] at this
  rcases this with h | h
  · omega
  · exact h j hj
theorem pure_at {n1 : Nat} (h : pureOk ops n1 = true) {i j : Nat} {o q : Oper} (hi : i < n1) (hj : j < n1) (ho : ops[i]? = some o) (hq : ops[j]? = some q) {d : Nat} (hd : q.dst = some d) :
    (i ≠ j → o.dst ≠ some d) ∧ (d ∈ readsOf ops o → j < i ∧ j ∈ waits o) := by
  have := List.all_eq_true.1 h i (List.mem_range.2 hi)
  simp only [ho] at this
  have := List.all_eq_true.1 this j (List.mem_range.2 hj)
  simp only [hq, hd, Bool.and_eq_true, Bool.or_eq_true, decide_eq_true_eq, Bool.not_eq_true', bne_iff_ne, ne_eq, List.contains_iff_mem] at this
  obtain ⟨h1, h2⟩ := this
  refine ⟨fun hne => h1.resolve_left hne, fun hr => ?_⟩
  rcases h2 with h2 | h2
  · have := List.contains_iff_mem.2 hr
    rw [h2] at this; cases this
  · exact h2

theorem ready_iff {listed : Array Bool} {i : Nat} (hs : listed.size = ops.length) (hi : i < ops.length) {o : Oper} (ho : ops[i]? = some o) : i ∈ Region.ready .any ops.toArray listed ↔ listed.getD i false = false ∧ ∀ j ∈ waits o, listed.getD j false = true := by
  rw [mem_ready]
  rw [getD_tf hs hi]
  refine and_congr_right fun _ => ⟨?_, fun h => ⟨o, by simpa using ho, fun e he hb => h e.on ?_⟩⟩
  · rintro ⟨o', ho', h⟩ j hj
    have : o' = o := by simp [ho] at ho'; exact ho'.symm
    subst this
    obtain ⟨e, he, rfl⟩ := List.mem_map.1 hj
    have he := List.mem_filter.1 he
    exact h e (by simpa using he.1) he.2
  · exact List.mem_map.2 ⟨e, List.mem_filter.2 ⟨by simpa using he, hb⟩, rfl⟩

theorem ready_lt {listed : Array Bool} {i : Nat} (h : i ∈ Region.ready .any ops.toArray listed) : i < ops.length := by
  obtain ⟨_, o, ho, _⟩ := mem_ready.1 h
  have := (Array.getElem?_eq_some_iff.1 ho).1
  simpa using this

/-- The tail: one after the other. -/
theorem tail_ok (hV : VOk P V) (hK : ∀ s a w, K s → Rel w0 I0 n s a w → Q .normal a w) {n1 : Nat} (hlex : lexOk ops = true) (htail : tailOk ops n1 = true) :
    ∀ (fuel j : Nat) (s : St) (a : Act) (w : World) (listed : Array Bool), listed.size = ops.length → (∀ i, i < ops.length → listed.getD i false = decide (i < j)) → n1 ≤ j → j + fuel = ops.length → Rel w0 I0 n s a w → evalSeq V n ops md (ops.drop j) s K →
      wpAny P .any ops.toArray Q fuel listed a w
  | 0, j, s, a, w, listed, hs, hl, hj, hf, hrel, h => by
    have : ops.drop j = [] := List.drop_eq_nil_of_le (by omega)
    rw [this] at h
    refine ⟨?_, hK s a w h hrel⟩
    refine List.eq_nil_iff_forall_not_mem.2 fun i hi => ?_
    have hlt := ready_lt hi
    have := (ready_iff hs hlt (List.getElem?_eq_getElem hlt)).1 hi
    rw [hl i hlt] at this
    simp at this; omega
  | fuel + 1, j, s, a, w, listed, hs, hl, hj, hf, hrel, h => by
    have hjl : j < ops.length := by omega
    have hoj : ops[j]? = some ops[j] := List.getElem?_eq_getElem hjl
    have hready : j ∈ Region.ready .any ops.toArray listed := (ready_iff hs hjl hoj).2 ⟨by rw [hl j hjl]; simp, fun i hi => by have := lex_at hlex hoj i hi; rw [hl i (by omega)]; simpa using this⟩
    refine ⟨fun h0 => (by rw [h0] at hready; cases hready), fun i hi => ?_⟩
    have hlt := ready_lt hi
    have hoi : ops[i]? = some ops[i] := List.getElem?_eq_getElem hlt
    obtain ⟨h1, h2⟩ := (ready_iff hs hlt hoi).1 hi
    have hij : i = j := by
      rw [hl i hlt] at h1
      have h1 : ¬ i < j := by simpa using h1
      rcases Nat.lt_or_ge j i with hlt' | hge
      · have := h2 j (tail_at htail hoi (by omega) j hlt')
        rw [hl j hjl] at this; simp at this
      · omega
    subst hij
    unfold wpOp
    have : ops.toArray[i]? = some ops[i] := by simp [hoi]
    rw [this]
    rw [List.drop_eq_getElem_cons hjl] at h
    refine evalSeq_step hV hrel h fun s' a' w' h' hr' => ?_
    exact tail_ok hV hK hlex htail fuel (i + 1) s' a' w' _ (by simp [hs]) (fun k hk => by rw [getD_set hs hjl, hl k hk]; by_cases e : k = i <;> simp [e]; omega) (by omega) (by omega) hr' h'

/-- The state while the pure part runs, in whatever order. -/
structure Inv (w0 : World) (I0 : Imm) (n n1 : Nat) (ops : List Oper) (s0 : St) (rs : List Rec) (listed : Array Bool) (a : Act) (w : World) : Prop where
  size : a.tmps.size = n
  defers : a.defers = []
  rel : ∃ I m, WRel w0 I0 w I m (objsAt s0.l (newsOf 0 rs) fun i => listed.getD i false) ∧
    (∀ (i : Nat) o x d, i < n1 → ops[i]? = some o → rs[i]? = some x → listed.getD i false = true → o.dst = some d → RdT I m (objsAt s0.l (newsOf 0 rs) fun i => listed.getD i false) (a.tmps.getD d undef) x.out) ∧
    (∀ d, (∀ (i : Nat) o, i < n1 → ops[i]? = some o → listed.getD i false = true → o.dst ≠ some d) → RdT I m (objsAt s0.l (newsOf 0 rs) fun i => listed.getD i false) (a.tmps.getD d undef) (get s0.t d))

theorem unl_tail (listed : Array Bool) (n1 : Nat) : ∀ N, n1 ≤ N → (∀ i, i < N → listed.getD i false = decide (i < n1)) → unl N listed = N - n1 := by
  intro N
  induction N with
  | zero => intro _ _; simp [unl]
  | succ N ih =>
    intro hN h
    unfold unl
    rw [List.range_succ, List.filter_append, List.length_append]
    rcases Nat.lt_or_ge N n1 with hlt | hge
    · have hn : n1 = N + 1 := by omega
      subst hn
      have h1 : (List.range N).filter (fun i => !listed.getD i false) = [] := List.filter_eq_nil_iff.2 fun i hi => by
        have hi := List.mem_range.1 hi
        rw [h i (by omega)]; simp; omega
      have h2 : listed.getD N false = true := by rw [h N (by omega)]; simp
      rw [h1]; simp only [List.filter_cons, h2]; simp
    · have := ih hge (fun i hi => h i (by omega))
      unfold unl at this
      have h2 : listed.getD N false = false := by rw [h N (by omega)]; simpa using hge
      rw [this]; simp only [List.filter_cons, h2]; simp; omega

theorem rel_of_inv {n1 : Nat} (hpure : pureOk ops n1 = true) (hn1 : n1 ≤ ops.length) {s0 : St} {rs : List Rec} (hrl : rs.length = n1) {listed : Array Bool} {a : Act} {w : World} (hinv : Inv w0 I0 n n1 ops s0 rs listed a w) (hall : ∀ i, i < n1 → listed.getD i false = true) :
    Rel w0 I0 n ⟨tmOf s0.t (ops.take n1) rs, s0.l ++ (newsOf 0 rs).map (·.2)⟩ a w := by
  obtain ⟨h1, h2, I, m, h3, h4, h5⟩ := hinv
  have hL : objsAt s0.l (newsOf 0 rs) (fun i => listed.getD i false) = s0.l ++ (newsOf 0 rs).map (·.2) := by
    unfold objsAt
    congr 1
    apply List.map_congr_left
    intro p hp
    have := (newsOf_spec rs 0).1 p hp
    rw [if_pos (hall p.1 (by omega))]
  rw [hL] at h3 h4 h5
  refine ⟨h1, h2, I, m, h3, fun k => ?_⟩
  by_cases hk : ∃ i o, i < n1 ∧ ops[i]? = some o ∧ o.dst = some k
  · obtain ⟨i, o, hi, ho, hd⟩ := hk
    have hx : rs[i]? = some rs[i] := List.getElem?_eq_getElem (by omega)
    rw [get_tmOf_at (ops.take n1) rs s0.t k i o _ (by rw [List.getElem?_take, if_pos hi]; exact ho) hx hd (fun j q hq hj => by
      have hjn : j < n1 := by have := (List.getElem?_eq_some_iff.1 hq).1; simp at this; omega
      rw [List.getElem?_take, if_pos hjn] at hq
      exact (pure_at hpure hjn hi hq ho hd).1 hj)]
    exact h4 i o _ k hi ho hx (hall i hi) hd
  · rw [get_tmOf_other (ops.take n1) rs s0.t k (fun o ho hd => hk (by
      obtain ⟨i, hi, rfl⟩ := List.mem_iff_getElem.1 ho
      have hi' : i < n1 := by simp at hi; omega
      exact ⟨i, _, hi', by rw [List.getElem?_eq_getElem (by omega)], by simpa using hd⟩))]
    exact h5 k (fun i o hi ho _ hd => hk ⟨i, o, hi, ho, hd⟩)

theorem pure_ok (hV : VOk P V) (hK : ∀ s a w, K s → Rel w0 I0 n s a w → Q .normal a w) {n1 : Nat} (hlex : lexOk ops = true) (htail : tailOk ops n1 = true) (hpure : pureOk ops n1 = true) (hn1 : n1 ≤ ops.length) {s0 : St} {rs : List Rec}
    (hrs : RecsOk V n ops s0.l (ops.take n1) 0 s0.t 0 rs) (hend : evalSeq V n ops md (ops.drop n1) ⟨tmOf s0.t (ops.take n1) rs, s0.l ++ (newsOf 0 rs).map (·.2)⟩ K) :
    ∀ (fuel : Nat) (a : Act) (w : World) (listed : Array Bool), listed.size = ops.length → unl ops.length listed = fuel → (∀ i, n1 ≤ i → i < ops.length → listed.getD i false = false) → Inv w0 I0 n n1 ops s0 rs listed a w →
      wpAny P .any ops.toArray Q fuel listed a w := by
  have hrl : rs.length = n1 := by rw [hrs.len]; simp; omega
  have htk : ∀ i, i < n1 → (ops.take n1)[i]? = ops[i]? := fun i hi => by rw [List.getElem?_take, if_pos hi]
  intro fuel
  induction fuel with
  | zero =>
    intro a w listed hs hu htl hinv
    have hall : ∀ i, i < ops.length → listed.getD i false = true := by
      intro i hi
      have := List.length_eq_zero_iff.1 hu
      have := (List.filter_eq_nil_iff.1 this) i (List.mem_range.2 hi)
      simpa using this
    have hN : n1 = ops.length := by
      rcases Nat.lt_or_ge n1 ops.length with h | h
      · have := htl n1 (Nat.le_refl _) h; rw [hall n1 h] at this; cases this
      · omega
    exact tail_ok hV hK hlex htail 0 n1 _ a w listed hs (fun i hi => by rw [hall i hi]; simp; omega) (Nat.le_refl _) (by omega) (rel_of_inv hpure hn1 hrl hinv (fun i hi => hall i (by omega))) hend
  | succ fuel ih =>
    intro a w listed hs hu htl hinv
    by_cases hall : ∀ i, i < n1 → listed.getD i false = true
    · have hl : ∀ i, i < ops.length → listed.getD i false = decide (i < n1) := by
        intro i hi
        by_cases h : i < n1
        · rw [hall i h]; simp [h]
        · rw [htl i (by omega) hi]; simp [h]
      have := unl_tail listed n1 ops.length hn1 hl
      exact tail_ok hV hK hlex htail (fuel + 1) n1 _ a w listed hs hl (Nat.le_refl _) (by omega) (rel_of_inv hpure hn1 hrl hinv hall) hend
    · -- the least that is still to come may come
      obtain ⟨hsz, hdf, I, m, hw, hc1, hc2⟩ := hinv
      have hex : ∃ i, i < n1 ∧ listed.getD i false = false := by
        refine Classical.byContradiction fun h => hall fun i hi => ?_
        cases hb : listed.getD i false with
        | true => rfl
        | false => exact absurd ⟨i, hi, hb⟩ h
      have hleast : ∃ i, i < n1 ∧ listed.getD i false = false ∧ ∀ j, j < i → listed.getD j false = true := by
        obtain ⟨i, hi⟩ := hex
        induction i using Nat.strongRecOn with
        | ind i ih' =>
          by_cases h : ∃ j, j < i ∧ listed.getD j false = false
          · obtain ⟨j, hj, hb⟩ := h
            exact ih' j hj ⟨by omega, hb⟩
          · refine ⟨i, hi.1, hi.2, fun j hj => ?_⟩
            cases hb : listed.getD j false with
            | true => rfl
            | false => exact absurd ⟨j, hj, hb⟩ h
      obtain ⟨i0, hi0, hb0, hbl⟩ := hleast
      have ho0 : ops[i0]? = some ops[i0] := List.getElem?_eq_getElem (by omega)
      have hready0 : i0 ∈ Region.ready .any ops.toArray listed := (ready_iff hs (by omega) ho0).2 ⟨hb0, fun j hj => hbl j (lex_at hlex ho0 j hj)⟩
      refine ⟨fun h0 => (by rw [h0] at hready0; cases hready0), fun i hi => ?_⟩
      have hlt := ready_lt hi
      have hoi : ops[i]? = some ops[i] := List.getElem?_eq_getElem hlt
      obtain ⟨h1, h2⟩ := (ready_iff hs hlt hoi).1 hi
      have hin : i < n1 := by
        rcases Nat.lt_or_ge i n1 with h | h
        · exact h
        · have := h2 i0 (tail_at htail hoi h i0 (by omega)); rw [hb0] at this; cases this
      generalize ops[i] = o at hoi h2
      have hx : rs[i]? = some rs[i] := List.getElem?_eq_getElem (by omega)
      generalize rs[i] = x at hx
      obtain ⟨hrec, htm, hnid⟩ := hrs.at_ i o x (by rw [htk i hin]; exact hoi) hx
      obtain ⟨⟨qc, hg, hqp⟩, hgn, hres, hob, hdst, hnew, hgone⟩ := hrec
      unfold wpOp
      have : ops.toArray[i]? = some o := by simpa using hoi
      simp only [this]
      -- the slots that it reads
      have hslot : ∀ t, t ∈ readsOf ops o → RdT I m (objsAt s0.l (newsOf 0 rs) fun i => listed.getD i false) (a.tmps.getD t undef) (get x.tm t) := by
        intro t ht
        rw [htm]
        rw [show (ops.take n1).take i = ops.take i by rw [List.take_take]; congr 1; omega]
        by_cases hk : ∃ j q, j < n1 ∧ ops[j]? = some q ∧ q.dst = some t
        · obtain ⟨j, q, hj, hq, hd⟩ := hk
          obtain ⟨hji, hjw⟩ := (pure_at hpure hin hj hoi hq hd).2 ht
          have hxj : rs[j]? = some rs[j] := List.getElem?_eq_getElem (by omega)
          rw [get_tmOf_at (ops.take i) (rs.take i) s0.t t j q _ (by rw [List.getElem?_take, if_pos hji]; exact hq) (by rw [List.getElem?_take, if_pos hji]; exact hxj) hd (fun k q' hq' hk => by
            have hki : k < i := by have := (List.getElem?_eq_some_iff.1 hq').1; simp at this; omega
            rw [List.getElem?_take, if_pos hki] at hq'
            exact (pure_at hpure (by omega) hj hq' hq hd).1 hk)]
          exact hc1 j q _ t hj hq hxj (h2 j hjw) hd
        · rw [get_tmOf_other (ops.take i) (rs.take i) s0.t t (fun q hq hd => hk (by
            obtain ⟨j, hj, rfl⟩ := List.mem_iff_getElem.1 hq
            have hj' : j < i := by simp at hj; omega
            exact ⟨j, _, by omega, by rw [List.getElem?_eq_getElem (by omega)], by simpa using hd⟩))]
          exact hc2 t (fun j q hj hq _ hd => hk ⟨j, q, hj, hq, hd⟩)
      have hev : ∀ y ∈ o.op.operands, RdT I m (objsAt s0.l (newsOf 0 rs) fun i => listed.getD i false) (a.eval y) (evT x.tm y) := by
        intro y hy
        cases y with
        | tmp t => exact hslot t (List.mem_append_left _ (List.mem_filterMap.2 ⟨.tmp t, by simpa using hy, rfl⟩))
        | const v => exact constT_ok v
        | global g => exact .undef _
        | func f => exact .d _ _ (.fn f)
      have hwant := wanted_ok' (ops := ops) (a := a) (fun j b d hgd hd => hslot d (List.mem_append_right _ (by rw [hgd]; simp only; rw [hd]; simp))) hg
      have hwant := hwant.trans hqp
      have hu' : unl ops.length (listed.setIfInBounds i true) = fuel := by have := unl_set hs hlt h1; omega
      have htl' : ∀ k, n1 ≤ k → k < ops.length → (listed.setIfInBounds i true).getD k false = false := fun k hk hkl => by
        rw [getD_set hs hlt, if_neg (by omega)]; exact htl k hk hkl
      have hL' : ∀ j, (listed.setIfInBounds i true).getD j false = if j = i then true else listed.getD j false := fun j => getD_set hs hlt
      -- the state behind it
      have next : ∀ (J : Imm) (m' : Nat → Value) (v : Value) (w' : World), Le I m (objsAt s0.l (newsOf 0 rs) fun i => listed.getD i false) J m' (objsAt s0.l (newsOf 0 rs) fun k => (listed.setIfInBounds i true).getD k false) →
          WRel w0 I0 w' J m' (objsAt s0.l (newsOf 0 rs) fun k => (listed.setIfInBounds i true).getD k false) → RdT J m' (objsAt s0.l (newsOf 0 rs) fun k => (listed.setIfInBounds i true).getD k false) v x.out →
          wpAny P .any ops.toArray Q fuel (listed.setIfInBounds i true) (a.put o.dst v) w' := by
        intro J m' v w' hle hw' hv
        refine ih _ _ _ (by simp [hs]) hu' htl' ⟨by cases o.dst <;> simp [Act.put, hsz], by cases o.dst <;> simp [Act.put, hdf], J, m', hw', fun j q y d hj hq hy hl hd => ?_, fun d hd => ?_⟩
        · by_cases hji : j = i
          · subst hji
            rw [hoi] at hq; injection hq with hq; subst hq
            rw [hx] at hy; injection hy with hy; subst hy
            have hdn : d < n := by rw [hd] at hdst; simpa [dstOk] using hdst
            have : (a.put o.dst v).tmps.getD d undef = v := by simp [hd, Act.put, Array.getD_eq_getD_getElem?, hsz, hdn]
            rw [this]; exact hv
          · have hlj : listed.getD j false = true := by rw [hL' j, if_neg hji] at hl; exact hl
            have hne : o.dst ≠ some d := (pure_at hpure hin hj hoi hq hd).1 (Ne.symm hji)
            have : (a.put o.dst v).tmps.getD d undef = a.tmps.getD d undef := by
              cases hod : o.dst with
              | none => rfl
              | some d' =>
                have : d' ≠ d := fun e => hne (by rw [hod, e])
                simp [Act.put, Array.getD_eq_getD_getElem?, this]
            rw [this]; exact (hc1 j q y d hj hq hy hlj hd).mono hle
        · have hne : o.dst ≠ some d := hd i o hin hoi (by rw [hL' i, if_pos rfl])
          have : (a.put o.dst v).tmps.getD d undef = a.tmps.getD d undef := by
            cases hod : o.dst with
            | none => rfl
            | some d' =>
              have : d' ≠ d := fun e => hne (by rw [hod, e])
              simp [Act.put, Array.getD_eq_getD_getElem?, this]
          rw [this]
          exact (hc2 d (fun j q hj hq hl => hd j q hj hq (by rw [hL' j]; split <;> first | rfl | exact hl))).mono hle
      have hsame : x.new = none → (objsAt s0.l (newsOf 0 rs) fun i => listed.getD i false) = objsAt s0.l (newsOf 0 rs) fun k => (listed.setIfInBounds i true).getD k false := by
        intro hnn
        refine objsAt_same fun p hp => ?_
        rw [hL' p.1, if_neg]
        intro he
        obtain ⟨i', x', e1, e2, e3⟩ := newsOf_mem rs 0 p hp
        have : i' = i := by omega
        subst this
        rw [hx] at e2; injection e2 with e2; subst e2
        rw [hnn] at e3; cases e3
      by_cases hp : holds x.pc
      · rw [if_pos (hwant.2 hp)]
        refine .inl ?_
        obtain ⟨hob1, hob2⟩ := hob hp
        have hres := hres hp
        have hops : ∀ y ∈ o.op.operands, RdT I m (objsAt s0.l (newsOf 0 rs) fun i => listed.getD i false) (a.eval y) (strip x.pc (evT x.tm y)).1 := fun y hy =>
          strip_ok (hev y hy) hp (obAll_mem hob2 _ (List.mem_map.2 ⟨y, by simpa using hy, rfl⟩))
        have hsnd := evalOp_sound (nid := x.nid) hV hw (objsAt_com (l0 := s0.l)) hops (by rw [hres]; exact hob1)
        rw [hres] at hsnd
        unfold RSound at hsnd
        cases hnn : x.new with
        | none =>
          simp only [hnn] at hsnd
          refine StepOk.wp (hsnd.mono fun v w' ⟨J, hle, hw', hv⟩ => ?_)
          rw [hsame hnn] at hle hw' hv
          refine next J m v w' (by rw [hsame hnn]; exact hle) hw' ?_
          unfold Rec.out
          split
          · exact hv
          · exact .cond _ _ _ (fun _ => hv) (fun hn => absurd hp hn)
        | some b =>
          simp only [hnn] at hsnd
          have hpc : x.pc = [] := hnew (by rw [hnn]; rfl)
          have hpos := (newsOf_spec rs 0).2.1 i x b hx hnn
          simp only [Nat.zero_add] at hpos
          have hdead : (objsAt s0.l (newsOf 0 rs) fun i => listed.getD i false)[x.nid]? = some .dead := by
            rw [hnid, Nat.add_zero]
            have := objsAt_get (l0 := s0.l) (L := fun i => listed.getD i false) hpos
            simp only [h1] at this
            simpa using this
          have hset : (objsAt s0.l (newsOf 0 rs) fun i => listed.getD i false).set x.nid b = objsAt s0.l (newsOf 0 rs) fun k => (listed.setIfInBounds i true).getD k false := by
            rw [hnid, Nat.add_zero]
            exact objsAt_set hpos (fun q y hq hy => (newsOf_spec rs 0).2.2 q _ y _ hq hpos hy) hL'
          refine StepOk.wp ((hsnd hdead).mono fun v w' ⟨m', hle, hw', hv⟩ => ?_)
          rw [hset] at hle hw' hv
          refine next I m' v w' hle hw' ?_
          unfold Rec.out
          rw [if_pos hpc]; exact hv
      · rw [if_neg (fun hh => hp (hwant.1 hh))]
        have hpc : x.pc ≠ [] := by intro e; rw [e] at hp; exact hp trivial
        have hnn : x.new = none := by
          cases hn' : x.new with
          | none => rfl
          | some b => exact absurd (hnew (by rw [hn']; rfl)) hpc
        have hw' := hw
        rw [hsame hnn] at hw'
        refine next I m undef w (by rw [hsame hnn]; exact .refl ..) hw' ?_
        unfold Rec.out
        rw [if_neg hpc]
        exact .cond _ _ _ (fun h => absurd h hp) (fun _ => rfl)

/-- A region that draws its order. -/
theorem draw_core (hV : VOk P V) (hm : P.follows .mixedOrders = true) (hK : ∀ s a w, K s → Rel w0 I0 n s a w → Q .normal a w) {id : Nat} {s : St} {a : Act} {w : World} {n1 : Nat} (hlex : lexOk ops = true) (htail : tailOk ops n1 = true) (hpure : pureOk ops n1 = true) (hn1 : n1 ≤ ops.length)
    (hrel : Rel w0 I0 n s a w) {rs : List Rec} (hrs : RecsOk V n ops s.l (ops.take n1) 0 s.t ([] : List (Nat × AO)).length rs) (hend : evalSeq V n ops md (ops.drop n1) ⟨tmOf s.t (ops.take n1) rs, s.l ++ (([] : List (Nat × AO)) ++ newsOf 0 rs).map (·.2)⟩ K) : (Code.region id ops.toArray true).wp P Q a w := by
  obtain ⟨hsz, hdf, I, m, hw, ht⟩ := hrel
  refine wp_region_any hm ?_
  have hl0 : ∀ i, (Array.replicate ops.length false).getD i false = false := fun i => by
    rw [Array.getD_eq_getD_getElem?]
    cases hx : (Array.replicate ops.length false)[i]? with
    | none => rfl
    | some b => have := Array.getElem?_eq_some_iff.1 hx; simp at this; simp [← this.2]
  have hw1 : WRel w0 I0 { w with drawn := w.drawn + 1 } I m s.l := (hw.call (w' := { w with drawn := w.drawn + 1 }) ⟨rfl, rfl, rfl, Nat.le_refl _, fun _ _ => rfl, fun _ => Nat.le_succ _⟩ (ExtI.refl _ _) ⟨hw.sat.cell, hw.sat.mp⟩).1
  obtain ⟨hw2, hle⟩ : WRel w0 I0 { w with drawn := w.drawn + 1 } I m (objsAt s.l (newsOf 0 rs) fun i => (Array.replicate ops.length false).getD i false) ∧ Le I m s.l I m (objsAt s.l (newsOf 0 rs) fun i => (Array.replicate ops.length false).getD i false) := by
    have : (objsAt s.l (newsOf 0 rs) fun i => (Array.replicate ops.length false).getD i false) = s.l ++ List.replicate (newsOf 0 rs).length .dead := by
      unfold objsAt
      congr 1
      rw [List.eq_replicate_iff]
      refine ⟨by simp, fun b hb => ?_⟩
      obtain ⟨p, _, rfl⟩ := List.mem_map.1 hb
      rw [if_neg (by simp only [hl0]; simp)]
    rw [this]
    generalize (newsOf 0 rs).length = c
    induction c with
    | zero => simp; exact ⟨hw1, .refl ..⟩
    | succ c ih =>
      obtain ⟨q1, q2⟩ := ih
      obtain ⟨r1, r2⟩ := q1.push
      rw [List.replicate_succ', ← List.append_assoc]
      exact ⟨r1, q2.trans r2⟩
  have := pure_ok (Q := Q) (K := K) hV hK hlex htail hpure hn1 (s0 := s) (rs := rs) (by simpa using hrs) (by simpa using hend) ops.length a { w with drawn := w.drawn + 1 } (Array.replicate ops.length false) (by simp)
    (by unfold unl; rw [List.filter_eq_self.2 (fun i _ => by rw [hl0]; rfl)]; simp) (fun i _ _ => hl0 i)
    ⟨hsz, hdf, I, m, hw2, fun i o x d hi ho hx hl => (by rw [hl0] at hl; cases hl), fun d _ => (ht d).mono hle⟩
  simpa using this

theorem evalDraw_ok (hV : VOk P V) (hm : P.follows .mixedOrders = true) (hK : ∀ s a w, K s → Rel w0 I0 n s a w → Q .normal a w) {id : Nat} {s : St} {a : Act} {w : World} (hrel : Rel w0 I0 n s a w) (h : evalDraw V n ops s K) : (Code.region id ops.toArray true).wp P Q a w := by
  obtain ⟨hlex, htail, hpure, hn1, h⟩ := h
  obtain ⟨rs, hrs, hend⟩ := evalPure_recs _ _ _ _ h
  exact draw_core hV hm hK hlex htail hpure hn1 hrel hrs hend

end
end Go.Eva

/-
  Eva, part Q: code, loops, functions.
-/
namespace Go.Eva
open Go Go.RowKit
variable [Drw]

/-- From every state that stands as s says, the code ends as Q says. -/
def AWp (P : Program) (w0 : World) (I0 : Imm) (n : Nat) (c : Code) (s : St) (Q : Exit → St → Prop) : Prop :=
  ∀ a w, Rel w0 I0 n s a w → c.wp P (fun e a' w' => ∃ s', Q e s' ∧ Rel w0 I0 n s' a' w') a w

/-- Every state that stands as s says stands as s' says. -/
def Sub (s s' : St) : Prop := ∀ w0 I0 n a w, Rel w0 I0 n s a w → Rel w0 I0 n s' a w
theorem Sub.refl (s : St) : Sub s s := fun _ _ _ _ _ h => h

section
variable {P : Program} {V : Env} {w0 : World} {I0 : Imm} {n : Nat} {Q Q' : Exit → St → Prop} {s s' : St} {x y : Code}

theorem AWp.mono (h : AWp P w0 I0 n x s Q) (hq : ∀ e s, Q e s → Q' e s) : AWp P w0 I0 n x s Q' := fun a w hr =>
  Code.wp_mono (fun e _ _ ⟨s', h1, h2⟩ => ⟨s', hq e s' h1, h2⟩) (h a w hr)
theorem AWp.sub (hs : Sub s s') (h : AWp P w0 I0 n x s' Q) : AWp P w0 I0 n x s Q := fun a w hr => h a w (hs _ _ _ _ _ hr)

theorem AWp.region (hV : VOk P V) {id : Nat} {ops : List Oper} (h : evalSeq V n ops none ops s (Q .normal)) : AWp P w0 I0 n (.region id ops.toArray false) s Q := fun a w hr => by
  refine wp_region_lit (evalSeq_ok (Q := fun e a' w' => ∃ s', Q e s' ∧ Rel w0 I0 n s' a' w') (K := Q .normal) hV (fun s _ _ h1 h2 => ⟨s, h1, h2⟩) ops s a w hr h)

theorem AWp.draw (hV : VOk P V) (hm : P.follows .mixedOrders = true) {id : Nat} {ops : List Oper} (h : evalDraw V n ops s (Q .normal)) : AWp P w0 I0 n (.region id ops.toArray true) s Q := fun a w hr =>
  evalDraw_ok (Q := fun e a' w' => ∃ s', Q e s' ∧ Rel w0 I0 n s' a' w') (K := Q .normal) hV hm (fun s _ _ h1 h2 => ⟨s, h1, h2⟩) hr h

/-- What stands behind the first of two. -/
def thenQ (K : St → Prop) (Q : Exit → St → Prop) : Exit → St → Prop
  | .normal, s => K s
  | e, s => Q e s

theorem AWp.seq (h : AWp P w0 I0 n x s (thenQ (fun s' => AWp P w0 I0 n y s' Q) Q)) : AWp P w0 I0 n (x.seq y) s Q := fun a w hr =>
  wp_seq (Code.wp_mono (fun e a' w' ⟨s', h1, h2⟩ => by
    cases e <;> first | exact h1 a' w' h2 | exact ⟨s', h1, h2⟩) (h a w hr))

def boolOf : T → Option Bool
  | .d (.bool b) => some b
  | _ => none

theorem AWp.cond {c : Operand} {b : Bool} (hc : boolOf (evT s.t c) = some b) (h1 : b = true → AWp P w0 I0 n x s Q) (h2 : b = false → AWp P w0 I0 n y s Q) : AWp P w0 I0 n (.cond c x y) s Q := fun a w hr => by
  have hr' := hr
  obtain ⟨_, _, I, m, hw, ht⟩ := hr'
  have hv := evT_ok ht c
  have hc' : evT s.t c = .d (.bool b) := by
    unfold boolOf at hc
    split at hc
    · rename_i b' hb; injection hc with hc; rw [hb, hc]
    · cases hc
  rw [hc'] at hv
  have := rdD hv
  generalize hav : a.eval c = v at this
  cases this
  refine wp_cond hav ?_
  cases b with
  | true => exact h1 rfl a w hr
  | false => exact h2 rfl a w hr

def inBlockQ (id : Nat) (Q : Exit → St → Prop) : Exit → St → Prop
  | .exit id', s => if id' = id then Q .normal s else Q (.exit id') s
  | e, s => Q e s
theorem AWp.block {id : Nat} (h : AWp P w0 I0 n x s (inBlockQ id Q)) : AWp P w0 I0 n (.block id x) s Q := fun a w hr =>
  wp_block (Code.wp_mono (fun e a' w' ⟨s', h1, h2⟩ => by
    cases e <;> first | exact ⟨s', h1, h2⟩ | skip
    simp only [inBlockQ] at h1
    simp only [Exit.inBlock]
    split <;> rename_i hh
    · rw [if_pos hh] at h1; exact ⟨s', h1, h2⟩
    · rw [if_neg hh] at h1; exact ⟨s', h1, h2⟩) (h a w hr))
theorem AWp.exit {id : Nat} (h : Q (.exit id) s) : AWp P w0 I0 n (.exit id) s Q := fun _ _ hr => wp_exit ⟨s, h, hr⟩
theorem AWp.ret (h : Q .ret s) : AWp P w0 I0 n .ret s Q := fun _ _ hr => wp_ret ⟨s, h, hr⟩
theorem AWp.skip (h : Q .normal s) : AWp P w0 I0 n .skip s Q := fun _ _ hr => wp_skip ⟨s, h, hr⟩

/-- A loop: the states at the head of a round are F x, for x with p x; each round lowers μ. -/
theorem AWp.loop {X : Type} (F : X → St) (p : X → Prop) (μ : X → Nat) (x0 : X) (h0 : p x0) (hs : Sub s (F x0))
    (round : ∀ z, p z → AWp P w0 I0 n x (F z) (thenQ (fun s' => ∃ z', p z' ∧ μ z' < μ z ∧ Sub s' (F z')) Q)) : AWp P w0 I0 n (.loop x) s Q := fun a w hr => by
  refine wp_loop_ghost (fun k a w => ∃ z, p z ∧ μ z = k ∧ Rel w0 I0 n (F z) a w) (μ x0) ⟨x0, h0, rfl, hs _ _ _ _ _ hr⟩ fun k a w ⟨z, hz, hk, hr⟩ => ?_
  refine Code.wp_mono (fun e a' w' ⟨s', h1, h2⟩ => ?_) (round z hz a w hr)
  cases e <;> first | exact ⟨s', h1, h2⟩ | skip
  obtain ⟨z', q1, q2, q3⟩ := h1
  exact ⟨μ z', by omega, z', q1, rfl, q3 _ _ _ _ _ h2⟩

/-- What a result is, at the end. -/
def resT (V : Env) (s : St) : ResultVar → T × Prop
  | .tmp t => (get s.t t, True)
  | .cell a ty => match loadAs V.E ty s.l (get s.t a) with | ⟨t, .none, ob⟩ => (t, ob) | _ => (.undef, False)

def retOk (V : Env) (s : St) (rv : List ResultVar) (r : D) : Prop :=
  obAll (rv.map fun v => (resT V s v).2) ∧ match argsD s.l (rv.map fun v => (resT V s v).1) with
    | some ([d], _) => d = r
    | some (ds, _) => D.tup ds = r
    | none => False

def resSem (tmps : Array Value) : ResultVar → Sem Value
  | .tmp t => pure (tmps.getD t undef)
  | .cell b t => do loadVar t (← asAddr (tmps.getD b undef))
theorem results_eq (fn : Func) (tmps : Array Value) : results fn tmps = (do
    let vs ← fn.results.mapM (resSem tmps)
    pure (if h : vs.size = 1 then vs[0] else .tuple vs)) := by
  unfold results
  congr 1

theorem res_ok (hE : TOk P V.E) {I : Imm} {m : Nat → Value} {w : World} {a : Act} (hw : WRel w0 I0 w I m s.l) (ht : ∀ k, RdT I m s.l (a.tmps.getD k undef) (get s.t k)) : ∀ (rv : List ResultVar), obAll (rv.map fun v => (resT V s v).2) →
    ∃ vs : List Value, (rv.mapM (resSem a.tmps)).run P w = .ok vs w ∧ vs.length = rv.length ∧ ∀ (i : Nat) v t, vs[i]? = some v → (rv.map fun v => (resT V s v).1)[i]? = some t → RdT I m s.l v t
  | [], _ => ⟨[], by simp, rfl, by simp⟩
  | q :: rv, h => by
    obtain ⟨h1, h2⟩ := h
    obtain ⟨vs, k1, k2, k3⟩ := res_ok hE hw ht rv h2
    have hd : ∃ v, (resSem a.tmps q).run P w = .ok v w ∧ RdT I m s.l v (resT V s q).1 := by
      cases q with
      | tmp t => exact ⟨_, by simp [resSem], ht t⟩
      | cell b ty =>
        simp only [resT] at h1 ⊢
        have hx := ht b
        split at h1
        · rename_i t ob hl
          obtain ⟨_, u, q1, q2⟩ := loadAs_ok hE hw (Com.refl _) (ty := ty) hx (by rw [hl]; exact h1)
          rw [hl] at q2
          refine ⟨u, ?_, by simpa [hl] using q2⟩
          -- the slot holds an address
          have : ∃ ad, a.tmps.getD b undef = .pointer (some ad) := by
            generalize a.tmps.getD b undef = v at hx
            generalize get s.t b = tb at hx hl
            cases hx <;> first | exact ⟨_, rfl⟩ | (simp only [loadAs, R.bad, R.mk.injEq] at hl; rw [← hl.2.2] at h1; exact h1.elim)
          obtain ⟨ad, had⟩ := this
          rw [had] at q1
          simp only [Instr.loadAt, Instr.sureAddr, Sem.run_bind, Sem.run_pure, Result.andThen_ok] at q1
          simp only [resSem, had, asAddr, Sem.run_bind, Sem.run_pure, Result.andThen_ok]
          exact q1
        · exact h1.elim
    obtain ⟨v, q1, q2⟩ := hd
    refine ⟨v :: vs, ?_, by simp [k2], fun i u t hu hT => ?_⟩
    · rw [List.mapM_cons]
      simp only [Sem.run_bind, q1, Result.andThen_ok, k1, Sem.run_pure]
    · rcases i with _ | i
      · simp at hu hT; subst hu; subst hT; exact q2
      · simp at hu hT; exact k3 i u t hu (by simpa using hT)

/-- The slots when a call begins. -/
def startT : Nat → List D → Tm
  | _, [] => []
  | k, d :: ds => (k, .d d) :: startT (k + 1) ds

theorem startT_get : ∀ (ds : List D) (k j : Nat), get (startT k ds) j = if k ≤ j then (match ds[j - k]? with | some d => .d d | none => .undef) else .undef
  | [], k, j => by simp [startT, get]
  | d :: ds, k, j => by
    simp only [startT, get]
    by_cases h : k = j
    · subst h; simp
    · rw [if_neg h, startT_get ds (k + 1) j]
      by_cases h1 : k ≤ j
      · rw [if_pos (by omega), if_pos h1, show j - k = (j - (k + 1)) + 1 by omega]; simp
      · rw [if_neg (by omega), if_neg h1]

/-- A FUNCTION's CONTRACT, from its body. -/
theorem PureCon.of {f : FuncId} {fn : Func} {c : Code} {ds : List D} {r : D} (hV : VOk P V) (hf : P.funcs[f]? = some fn) (hb : fn.body = some c) (hn : ds.length ≤ fn.ntmps)
    (h : ∀ w0 I0, AWp P w0 I0 fn.ntmps c ⟨startT 0 ds, []⟩ fun e s => (e = .ret ∨ e = .normal) ∧ retOk V s fn.results.toList r) : PureCon P f ds r := by
  intro w I vs hsat hlen hrd
  refine calls_of_wp hf hb ?_
  have hrel : Rel w I fn.ntmps ⟨startT 0 ds, []⟩ { tmps := vs ++ Array.replicate (fn.ntmps - vs.size) undef, defers := [] } w := by
    refine ⟨by simp; omega, rfl, I, fun _ => undef, ⟨Bel.refl _ _, hsat, ExtI.refl _ _, by simp, by simp [alive, isVar, isRow]⟩, fun k => ?_⟩
    rw [startT_get]
    simp only [Nat.zero_le, if_true, Nat.sub_zero]
    cases hd : ds[k]? with
    | none => exact .undef _
    | some d =>
      have hk : k < vs.size := by rw [hlen]; exact (List.getElem?_eq_some_iff.1 hd).1
      have hv : vs[k]? = some vs[k] := Array.getElem?_eq_getElem hk
      have : (vs ++ Array.replicate (fn.ntmps - vs.size) undef).getD k undef = vs[k] := by
        rw [Array.getD_eq_getD_getElem?, Array.getElem?_append_left hk, hv]; rfl
      rw [this]
      exact .d _ _ (hrd k _ d hv hd)
  refine Code.wp_mono (fun e a w' ⟨s, ⟨he, hob, hret⟩, hr⟩ => ?_) (h w I _ _ hrel)
  obtain ⟨_, hdf, J, m, hw, ht⟩ := hr
  obtain ⟨rvs, q1, q2, q3⟩ := res_ok (P := P) hV.E hw ht fn.results.toList hob
  have fin : ∃ v, (results fn a.tmps).run P w' = .ok v w' ∧ ∃ J', ExtI w.heap.size I J' ∧ SatI w' J' ∧ Rd J' v r := by
    have hrun : (results fn a.tmps).run P w' = .ok (if h : rvs.length = 1 then rvs[0] else .tuple rvs.toArray) w' := by
      rw [results_eq]
      simp only [Sem.run_bind, Array.mapM_eq_mapM_toList, Sem.run_map, q1, Result.andThen_ok, Sem.run_pure]
      simp
    refine ⟨_, hrun, ?_⟩
    split at hret
    · rename_i d l' hd
      obtain ⟨J', le, r1, hl, hrd', _⟩ := argsD_ok _ _ _ rvs [d] l' hw (by simp [q2]) q3 hd
      subst hret
      have hl : rvs.length = 1 := hl
      refine ⟨J', r1.ext, r1.sat, ?_⟩
      rw [dif_pos hl]
      exact hrd' 0 _ d (List.getElem?_eq_getElem (by omega)) rfl
    · rename_i ds' l' hne hd
      obtain ⟨J', le, r1, hl, hrd', _⟩ := argsD_ok _ _ _ rvs ds' l' hw (by simp [q2]) q3 hd
      subst hret
      refine ⟨J', r1.ext, r1.sat, ?_⟩
      by_cases h1 : rvs.length = 1
      · rw [h1] at hl
        match ds', hl with
        | [d], _ => exact (hne d rfl).elim
      · rw [dif_neg h1]
        exact .tup _ _ (by simp [hl]) (fun i v d hv hd => hrd' i v d (by simpa using hv) hd)
    · exact hret.elim
  obtain ⟨v, p1, J', p2, p3, p4⟩ := fin
  rcases he with rfl | rfl
  · exact ⟨hdf, v, p1, v, J', rfl, hw.below, p2, p3, p4⟩
  · exact ⟨hdf, v, p1, v, J', rfl, hw.below, p2, p3, p4⟩

end
end Go.Eva

/-
  Eva, part R: small lemmas for the seats' texts.
-/
namespace Go.Eva
open Go Go.RowKit

theorem TOk.of_tab {P : Program} {tab : List (Nat × TI)} (h : tab.all (fun p => tiOk P p.1 p.2) = true) : TOk P (fun t => (tab.find? fun p => p.1 == t).map (·.2)) := by
  intro t i ht
  cases hf : tab.find? (fun p => p.1 == t) with
  | none => simp [hf] at ht
  | some p =>
    simp [hf] at ht
    have h1 := List.find?_some hf
    have h2 := List.all_eq_true.1 h p (List.mem_of_find?_eq_some hf)
    simp at h1
    subst h1; subst ht
    exact h2

/-- A function with a body is entered. -/
theorem Enters.of {P : Program} {f : FuncId} {fn : Func} (hf : P.funcs[f]? = some fn) (h : (fn.name == "runtime.NumGoroutine") = false ∧ fn.body.isNone = false) : Enters P f := by
  intro args w
  simp only [callFunc, Sem.run_bind, run_program, Result.andThen_ok, hf, h.1, h.2, Bool.false_eq_true, if_false, Sem.run_pure]

variable [Drw]
section
variable {P : Program} {V : Env} {w0 : World} {I0 : Imm} {n : Nat} {Q : Exit → St → Prop} {s s1 : St} {y : Code}
/-- A region whose end is known; what stands behind it. -/
theorem AWp.regionS (hV : VOk P V) {id : Nat} {ops : List Oper} (h : evalSeq V n ops none ops s (fun s' => s' = s1)) (k : Q .normal s1) : AWp P w0 I0 n (.region id ops.toArray false) s Q :=
  AWp.region hV (evalSeq_mono (fun s hs => by subst hs; exact k) _ _ h)
theorem AWp.seqR (hV : VOk P V) {id : Nat} {ops : List Oper} (h : evalSeq V n ops none ops s (fun s' => s' = s1)) (k : AWp P w0 I0 n y s1 Q) : AWp P w0 I0 n ((Code.region id ops.toArray false).seq y) s Q :=
  AWp.seq (AWp.regionS hV h k)
theorem AWp.seqK (hV : VOk P V) {id : Nat} {ops : List Oper} (h : evalSeq V n ops none ops s (fun s' => AWp P w0 I0 n y s' Q)) : AWp P w0 I0 n ((Code.region id ops.toArray false).seq y) s Q :=
  AWp.seq (AWp.region hV h)
theorem AWp.seqD (hV : VOk P V) (hm : P.follows .mixedOrders = true) {id : Nat} {ops : List Oper} (h : evalDraw V n ops s (fun s' => AWp P w0 I0 n y s' Q)) : AWp P w0 I0 n ((Code.region id ops.toArray true).seq y) s Q :=
  AWp.seq (AWp.draw hV hm h)
end

end Go.Eva

/-
  Eva, part S: '==' at structs of plain parts.
-/
namespace Go.Eva
open Go Go.RowKit

def fieldsShape (sh : TypeId → Option (List Lf)) : List Field → Nat → Option (List Lf)
  | [], _ => some []
  | f :: r, off => if f.name = "_" ∨ f.offset ≠ off then none else match sh f.type with
    | some ls => (match fieldsShape sh r (off + ls.length) with | some rs => some (ls ++ rs) | none => none)
    | none => none
def eqShape (P : Program) : Nat → TypeId → Option (List Lf)
  | 0, _ => none
  | d + 1, t => match P.info? t with
    | none => none
    | some i => match P.underlying t with
      | some .bool => some [.bool]
      | some (.int k) => some [.int k]
      | some .string => some [.str]
      | some (.struct fs) => if P.stoodInHeld t then none else match fieldsShape (eqShape P d) fs.toList 0 with
        | some ls => if i.size = ls.length then some ls else none
        | none => none
      | _ => none

def lfV : Lf → Value → Bool
  | .bool, .bool _ => true
  | .int k, .int k' _ => k == k'
  | .str, .string _ => true
  | _, _ => false
def lfsV : List Lf → List Value → Bool
  | [], [] => true
  | x :: xs, d :: ds => lfV x d && lfsV xs ds
  | _, _ => false
def eqV : Value → Value → Bool
  | .bool a, .bool b => a == b
  | .int _ a, .int _ b => a == b
  | .string a, .string b => a == b
  | _, _ => false
def eqVs : List Value → List Value → Bool
  | [], [] => true
  | x :: xs, y :: ys => eqV x y && eqVs xs ys
  | _, _ => false

theorem lfsV_len : ∀ {ls : List Lf} {vs : List Value}, lfsV ls vs = true → vs.length = ls.length
  | [], [], _ => rfl
  | _ :: _, _ :: _, h => by simp only [lfsV, Bool.and_eq_true] at h; simp [lfsV_len h.2]
  | [], _ :: _, h => by simp [lfsV] at h
  | _ :: _, [], h => by simp [lfsV] at h
theorem lfsV_append : ∀ {a b : List Lf} {vs : List Value}, lfsV (a ++ b) vs = true → lfsV a (vs.take a.length) = true ∧ lfsV b (vs.drop a.length) = true
  | [], b, vs, h => by simp [lfsV]; exact h
  | x :: a, b, v :: vs, h => by
    simp only [List.cons_append, lfsV, Bool.and_eq_true] at h
    obtain ⟨h1, h2⟩ := lfsV_append h.2
    simp [lfsV, h.1, h1, h2]
  | _ :: _, _, [], h => by simp [lfsV] at h
theorem eqVs_append : ∀ {a c : List Value} {b d : List Value}, a.length = c.length → eqVs (a ++ b) (c ++ d) = (eqVs a c && eqVs b d)
  | [], [], b, d, _ => by simp [eqVs]
  | x :: a, y :: c, b, d, h => by simp only [List.cons_append, eqVs, eqVs_append (a := a) (c := c) (by simpa using h), Bool.and_assoc]
  | [], _ :: _, _, _, h => by simp at h
  | _ :: _, [], _, _, h => by simp at h

section
variable {P : Program}

/-- What a part of a struct is, for '=='. -/
def partV (P : Program) (t : TypeId) (vs : List Value) : Value := match P.underlying t with
  | some (.struct _) => .agg vs.toArray
  | _ => vs.headD undef

theorem shape_size {d : Nat} {t : TypeId} {ls : List Lf} (h : eqShape P d t = some ls) : ∃ i, P.info? t = some i ∧ ((∃ fs, P.underlying t = some (.struct fs)) → i.size = ls.length) ∧ ((∀ fs, P.underlying t ≠ some (.struct fs)) → ls.length = 1) ∧ (∀ n e, P.underlying t ≠ some (.array n e)) ∧ P.underlying t ≠ none := by
  cases d with
  | zero => simp [eqShape] at h
  | succ d =>
    simp only [eqShape] at h
    split at h
    · cases h
    · rename_i i hi
      refine ⟨i, hi, ?_⟩
      split at h
      · rename_i hu; injection h with h; subst h; simp [hu]
      · rename_i hu; injection h with h; subst h; simp [hu]
      · rename_i hu; injection h with h; subst h; simp [hu]
      · rename_i fs hu
        split at h
        · cases h
        · split at h
          · split at h
            · rename_i hs; injection h with h; subst h; simp [hu, hs]
            · cases h
          · cases h
      · cases h

theorem run_part_shape {d : Nat} {t : TypeId} {ls : List Lf} (h : eqShape P d t = some ls) (xs : Array Value) (off : Nat) (hle : off + ls.length ≤ xs.size) (w : World) :
    (part t xs off).run P w = .ok (partV P t ((xs.toList.drop off).take ls.length)) w := by
  obtain ⟨i, hi, h1, h2, h3, h4⟩ := shape_size h
  cases hu : P.underlying t with
  | none => exact absurd hu h4
  | some desc =>
    have hagg : (isAgg t).run P w = .ok (match desc with | .struct _ | .array _ _ => true | _ => false) w := by
      unfold isAgg; simp only [Sem.run_bind, run_underlying hu, Result.andThen_ok]; cases desc <;> rfl
    have hsz : (sizeOf t).run P w = .ok i.size w := by simp [sizeOf, typeInfo, hi]
    cases desc with
    | struct fs =>
      have := h1 ⟨fs, hu⟩
      simp only [part, Sem.run_bind, hagg, Result.andThen_ok, if_true, hsz, Sem.run_pure, partV, hu]
      congr 2
      apply Array.toList_inj.1
      rw [Array.toList_extract]
      simp [List.extract_eq_take_drop, this]
    | array n e => exact absurd hu (h3 n e)
    | _ =>
      have h1' := h2 (by simp [hu])
      have hlt : off < xs.size := by omega
      simp only [part, Sem.run_bind, hagg, Result.andThen_ok, Bool.false_eq_true, if_false, Array.getElem?_eq_getElem hlt, Sem.run_pure, partV, hu]
      congr 1
      rw [h1', List.drop_eq_getElem_cons (by simpa using hlt)]
      simp

theorem run_equal_shape : ∀ (d D : Nat) (t : TypeId) (ls : List Lf), eqShape P d t = some ls → d ≤ D → ∀ (xs ys : List Value), lfsV ls xs = true → lfsV ls ys = true → ∀ w, (Op.equalIn D t (partV P t xs) (partV P t ys)).run P w = .ok (eqVs xs ys) w := by
  intro d
  induction d with
  | zero => intro D t ls h; simp [eqShape] at h
  | succ d ih =>
    intro D t ls h hD xs ys hx hy w
    obtain ⟨D, rfl⟩ : ∃ D', D = D' + 1 := ⟨D - 1, by omega⟩
    have hs := h
    simp only [eqShape] at h
    split at h
    · cases h
    · rename_i i hi
      have one : ∀ {x : Lf} {vs : List Value}, lfsV [x] vs = true → ∃ v, vs = [v] ∧ lfV x v = true := by
        intro x vs h
        match vs, h with
        | [v], h => simp [lfsV] at h; exact ⟨v, rfl, h⟩
        | [], h => simp [lfsV] at h
        | _ :: _ :: _, h => simp [lfsV] at h
      split at h
      · rename_i hu
        injection h with h; subst h
        obtain ⟨u, rfl, hu1⟩ := one hx
        obtain ⟨v, rfl, hv1⟩ := one hy
        cases u <;> simp [lfV] at hu1
        cases v <;> simp [lfV] at hv1
        simp only [partV, hu, List.headD, eqVs, eqV, Bool.and_true]
        exact run_equalIn_bool w D t _ _ hu
      · rename_i k hu
        injection h with h; subst h
        obtain ⟨u, rfl, hu1⟩ := one hx
        obtain ⟨v, rfl, hv1⟩ := one hy
        cases u <;> simp [lfV] at hu1
        cases v <;> simp [lfV] at hv1
        subst hu1; subst hv1
        simp only [partV, hu, List.headD, eqVs, eqV, Bool.and_true]
        exact run_equalIn_int w D t _ _ _ _ hu
      · rename_i hu
        injection h with h; subst h
        obtain ⟨u, rfl, hu1⟩ := one hx
        obtain ⟨v, rfl, hv1⟩ := one hy
        cases u <;> simp [lfV] at hu1
        cases v <;> simp [lfV] at hv1
        simp only [partV, hu, List.headD, eqVs, eqV, Bool.and_true]
        rw [run_equalIn_string w D t _ _ hu, beq_toListBytes]
      · rename_i fs hu
        split at h
        · cases h
        · rename_i hst
          split at h
          · rename_i ls' hf
            split at h
            · injection h with h; subst h
              have hfo : P.underlying t = some (.struct (P.fieldsOf t)) := by simp [Program.fieldsOf, hu]
              have hfe : P.fieldsOf t = fs := by simp [Program.fieldsOf, hu]
              simp only [partV, hu]
              rw [run_equalIn_struct w D t _ _ hfo (by simpa using hst), hfe]
              have key : ∀ (fl : List Field) (off : Nat) (rs : List Lf), fieldsShape (eqShape P d) fl off = some rs → ∀ (xs ys : List Value), off + rs.length = xs.length → xs.length = ys.length → lfsV rs (xs.drop off) = true → lfsV rs (ys.drop off) = true →
                  (Op.eqFields D xs.toArray ys.toArray fl).run P w = .ok (eqVs (xs.drop off) (ys.drop off)) w := by
                intro fl
                induction fl with
                | nil =>
                  intro off rs hr xs ys h1 h2 h3 h4
                  simp [fieldsShape] at hr; subst hr
                  have e1 : xs.drop off = [] := List.drop_eq_nil_of_le (by simp at h1; omega)
                  have e2 : ys.drop off = [] := List.drop_eq_nil_of_le (by simp at h1; omega)
                  rw [e1, e2]; simp [Op.eqFields, eqVs]
                | cons f fl ihf =>
                  intro off rs hr xs ys h1 h2 h3 h4
                  simp only [fieldsShape] at hr
                  split at hr
                  · cases hr
                  · rename_i hcond
                    have hnm : f.name ≠ "_" := fun e => hcond (.inl e)
                    have hoff : f.offset = off := Decidable.not_not.1 fun e => hcond (.inr e)
                    split at hr
                    · rename_i ls hsf
                      split at hr
                      · rename_i rs' hrs
                        injection hr with hr; subst hr
                        rw [List.length_append] at h1
                        obtain ⟨a1, a2⟩ := lfsV_append h3
                        obtain ⟨b1, b2⟩ := lfsV_append h4
                        rw [List.drop_drop] at a2 b2
                        simp only [Op.eqFields, if_pos hnm, Sem.run_bind, hoff]
                        rw [run_part_shape hsf xs.toArray off (by simp; omega) w]
                        simp only [Result.andThen_ok]
                        rw [run_part_shape hsf ys.toArray off (by simp; omega) w]
                        simp only [Result.andThen_ok]
                        rw [ih D f.type ls hsf (by omega) _ _ a1 b1 w]
                        simp only [Result.andThen_ok, Sem.run_ite]
                        have ex : eqVs (xs.drop off) (ys.drop off) = (eqVs ((xs.drop off).take ls.length) ((ys.drop off).take ls.length) && eqVs (xs.drop (off + ls.length)) (ys.drop (off + ls.length))) := by
                          conv => lhs; rw [← List.take_append_drop ls.length (xs.drop off), ← List.take_append_drop ls.length (ys.drop off)]
                          rw [eqVs_append (by simp; omega), List.drop_drop, List.drop_drop]
                        rw [ex]
                        cases hb : eqVs ((xs.drop off).take ls.length) ((ys.drop off).take ls.length) with
                        | false => simp
                        | true =>
                          simp only [Bool.not_true, Bool.false_eq_true, if_false, Bool.true_and]
                          exact ihf (off + ls.length) rs' hrs xs ys (by omega) h2 a2 b2
                      · cases hr
                    · cases hr
              have hxl := lfsV_len hx
              have hyl := lfsV_len hy
              have := key fs.toList 0 ls' hf xs ys (by omega) (by omega) (by simpa using hx) (by simpa using hy)
              simpa using this
            · cases h
          · cases h
      · cases h

/-- What a program's tables must say of a type whose equality is asked. -/
def eqTyOk (P : Program) (t : TypeId) (ls : List Lf) : Bool := decide (eqShape P 30 t = some ls) && !P.eqGuardType P.depth t && (match P.underlying t with | some .bool => decide (ls = [.bool]) | some (.struct _) => decide (ls ≠ [.bool]) | _ => false)

theorem lfs_of_rd {I : Imm} : ∀ {ls : List Lf} {vs : List Value} {ds : List D}, vs.length = ds.length → (∀ (i : Nat) v d, vs[i]? = some v → ds[i]? = some d → Rd I v d) → lfsOk ls ds = true → lfsV ls vs = true
  | [], [], [], _, _, _ => rfl
  | x :: ls, v :: vs, d :: ds, hl, hr, h => by
    simp only [lfsOk, Bool.and_eq_true] at h
    simp only [lfsV, Bool.and_eq_true]
    refine ⟨?_, lfs_of_rd (by simpa using hl) (fun i u e hu he => hr (i + 1) u e (by simpa using hu) (by simpa using he)) h.2⟩
    have h0 := hr 0 v d rfl rfl
    cases h0 <;> cases x <;> simp [lfOk] at h <;> simp [lfV, h]
  | [], _ :: _, [], hl, _, _ => by simp at hl
  | [], [], _ :: _, hl, _, _ => by simp at hl
  | [], _ :: _, _ :: _, _, _, h => by simp [lfsOk] at h
  | _ :: _, [], _ :: _, hl, _, _ => by simp at hl
  | _ :: _, _ :: _, [], hl, _, _ => by simp at hl
  | _ :: _, [], [], _, _, h => by simp [lfsOk] at h
theorem eq_of_rd {I : Imm} : ∀ {ls : List Lf} {vs us : List Value} {ds es : List D}, vs.length = ds.length → us.length = es.length → (∀ (i : Nat) v d, vs[i]? = some v → ds[i]? = some d → Rd I v d) → (∀ (i : Nat) v d, us[i]? = some v → es[i]? = some d → Rd I v d) →
    lfsOk ls ds = true → lfsOk ls es = true → eqVs vs us = beqDs ds es
  | [], [], [], [], [], _, _, _, _, _, _ => rfl
  | x :: ls, v :: vs, u :: us, d :: ds, e :: es, h1, h2, r1, r2, k1, k2 => by
    simp only [lfsOk, Bool.and_eq_true] at k1 k2
    simp only [eqVs, beqDs]
    rw [eq_of_rd (ls := ls) (by simpa using h1) (by simpa using h2) (fun i a b ha hb => r1 (i + 1) a b (by simpa using ha) (by simpa using hb)) (fun i a b ha hb => r2 (i + 1) a b (by simpa using ha) (by simpa using hb)) k1.2 k2.2]
    congr 1
    have a0 := r1 0 v d rfl rfl
    have b0 := r2 0 u e rfl rfl
    cases a0 <;> cases x <;> simp [lfOk] at k1 <;> cases b0 <;> simp [lfOk] at k2 <;> rfl
  | [], v :: vs, _, [], _, h, _, _, _, _, _ => by simp at h
  | [], [], _, d :: ds, _, h, _, _, _, _, _ => by simp at h
  | [], v :: vs, _, d :: ds, _, _, _, _, _, h, _ => by simp [lfsOk] at h
  | [], [], u :: us, [], [], _, h, _, _, _, _ => by simp at h
  | [], [], [], [], e :: es, _, h, _, _, _, _ => by simp at h
  | [], [], u :: us, [], e :: es, _, _, _, _, _, h => by simp [lfsOk] at h
  | x :: ls, [], _, d :: ds, _, h, _, _, _, _, _ => by simp at h
  | x :: ls, v :: vs, _, [], _, h, _, _, _, _, _ => by simp at h
  | x :: ls, [], _, [], _, _, _, _, _, h, _ => by simp [lfsOk] at h
  | x :: ls, v :: vs, [], d :: ds, e :: es, _, h, _, _, _, _ => by simp at h
  | x :: ls, v :: vs, u :: us, d :: ds, [], _, h, _, _, _, _ => by simp at h
  | x :: ls, v :: vs, [], d :: ds, [], _, _, _, _, _, h => by simp [lfsOk] at h

theorem EqOk.of_tab {tab : List (Nat × List Lf)} (h : tab.all (fun p => eqTyOk P p.1 p.2) = true) : EqOk P (fun t => (tab.find? fun p => p.1 == t).map (·.2)) := by
  intro t ls ht op x y I u v a b w ha hb hab hop
  have hsh : eqTyOk P t ls = true := by
    cases hf : tab.find? (fun p => p.1 == t) with
    | none => simp [hf] at ht
    | some p =>
      simp [hf] at ht
      have h1 := List.find?_some hf
      have h2 := List.all_eq_true.1 h p (List.mem_of_find?_eq_some hf)
      simp at h1; subst h1; subst ht; exact h2
  simp only [eqTyOk, Bool.and_eq_true, decide_eq_true_eq, Bool.not_eq_true'] at hsh
  obtain ⟨⟨h1, h2⟩, h3⟩ := hsh
  rcases hab with ⟨p, q, rfl, rfl, rfl⟩ | ⟨xs, ys, rfl, rfl, hne, hx, hy⟩
  · cases ha; cases hb
    have hu : P.underlying t = some .bool := by
      split at h3
      · assumption
      · simp at h3
      · cases h3
    have hr := run_equal_shape 30 10000 t _ h1 (by omega) [.bool p] [.bool q] rfl rfl w
    have e1 : ∀ p, partV P t [.bool p] = .bool p := fun p => by unfold partV; rw [hu]; rfl
    rw [e1, e1] at hr
    simp only [Sem.run_bind, eqGuard_at_bool, Sem.run_pure, Result.andThen_ok]
    rcases hop with rfl | rfl <;> simp [binOp, Op.equal, Op.maxDepth, hr, eqVs, eqV, beqD]
  · have hst : ∃ fs, P.underlying t = some (.struct fs) := by
      split at h3
      · exact absurd (of_decide_eq_true h3) hne
      · rename_i fs hu; exact ⟨fs, hu⟩
      · cases h3
    obtain ⟨fs, hu⟩ := hst
    generalize hua : D.agg xs = da at ha
    generalize hub : D.agg ys = db at hb
    cases ha <;> first | (cases hua; done) | skip
    rename_i cs ds p1 p2 p3
    injection hua with hua; subst hua
    cases hb <;> first | (cases hub; done) | skip
    rename_i cs' ds' q1 q2 q3
    injection hub with hub; subst hub
    have r1 : lfsV ls cs.toList = true := lfs_of_rd (by simpa using p1) (fun i v d hv hd => p3 i v d (by simpa using hv) hd) hx
    have r2 : lfsV ls cs'.toList = true := lfs_of_rd (by simpa using q1) (fun i v d hv hd => q3 i v d (by simpa using hv) hd) hy
    have hr := run_equal_shape 30 10000 t _ h1 (by omega) cs.toList cs'.toList r1 r2 w
    have e1 : ∀ cs : Array Value, partV P t cs.toList = .agg cs := fun cs => by unfold partV; rw [hu]
    rw [e1, e1, eq_of_rd (by simpa using p1) (by simpa using q1) (fun i v d hv hd => p3 i v d (by simpa using hv) hd) (fun i v d hv hd => q3 i v d (by simpa using hv) hd) hx hy] at hr
    simp only [Sem.run_bind, run_eqGuard_agg w op t x y cs cs' h2, Result.andThen_ok]
    rcases hop with rfl | rfl
    · rw [run_eql_struct w]; simp [hr, beqD]
    · rw [run_neq_struct w]; simp [hr, beqD]

end
end Go.Eva

/-
  Eva, part Pa: an operation's evaluation hangs on its operands alone; those of slots alone on no memory.
-/
namespace Go.Eva
open Go Go.RowKit
variable [Drw]

theorem evalOp_congr {V : Env} {ρ ρ' : Operand → T} {l : List AO} {nid : Nat} {o : Oper} (h : ∀ x ∈ o.op.operands, ρ x = ρ' x) : evalOp V ρ l nid o = evalOp V ρ' l nid o := by
  obtain ⟨dst, op, ty, pos, aft, g⟩ := o
  cases op with
  | build t parts =>
    have : parts.toList.map (fun p => (p.1, ρ p.2)) = parts.toList.map (fun p => (p.1, ρ' p.2)) := List.map_congr_left fun p hp => by
      rw [h p.2 (by simp only [Op.operands]; simp; exact ⟨p.1, by simpa using hp⟩)]
    simp only [evalOp, this]
  | buildSlice t len parts =>
    have : parts.toList.map (fun p => unD1 (ρ p.2)) = parts.toList.map (fun p => unD1 (ρ' p.2)) := List.map_congr_left fun p hp => by
      rw [h p.2 (by simp only [Op.operands]; simp; exact ⟨p.1, by simpa using hp⟩)]
    have h2 : parts.toList.mapM (fun p => unD1 (ρ p.2)) = parts.toList.mapM (fun p => unD1 (ρ' p.2)) := by
      have e : ∀ (f : Nat × Operand → Option D) (ps : List (Nat × Operand)), ps.mapM f = (ps.map f).mapM id := fun f ps => by
        induction ps with
        | nil => rfl
        | cons p ps ih => simp only [List.mapM_cons, List.map_cons, ih, id]
      rw [e, e, this]
    simp only [evalOp, h2]
  | slice t x lo hi mx =>
    have hx := h x (by simp [Op.operands])
    have hlo : lo.map ρ = lo.map ρ' := by cases lo with | none => rfl | some a => simp; exact h a (by simp [Op.operands])
    have hhi : hi.map ρ = hi.map ρ' := by cases hi with | none => rfl | some a => simp; exact h a (by simp [Op.operands])
    cases mx <;> simp only [evalOp, hx, hlo, hhi]
  | call c =>
    have hargs : c.args.toList.map ρ = c.args.toList.map ρ' := List.map_congr_left fun x hx => h x (by simp [Op.operands, Call.operands]; right; simpa using hx)
    have hmem : ∀ x ∈ c.args.toList, ρ x = ρ' x := fun x hx => h x (by simp [Op.operands, Call.operands]; right; simpa using hx)
    obtain ⟨callee, args, argTypes⟩ := c
    cases callee with
    | value f =>
      have hf := h f (by simp [Op.operands, Call.operands])
      simp only [evalOp, hf, hargs]
    | invoke r n => simp only [evalOp]
    | builtin b =>
      cases b <;> simp only [evalOp] <;> first | rfl | (simp only at hargs hmem; (try rw [hargs]); done) | (simp only at hargs hmem; split <;> first | rfl | (rename_i ha _; simp only [ha, List.mem_cons, List.mem_singleton, List.not_mem_nil, or_false] at hmem; first | rw [hmem _ rfl] | rw [hmem _ (.inl rfl), hmem _ (.inr rfl)]))
  | makeMap t r => cases r <;> simp only [evalOp]
  | _ => simp only [evalOp] <;> first | rfl | (simp only [Op.operands] at h; simp [h])

/-- Operations of slots alone. -/
def isReg (o : Oper) : Bool := match o.op with
  | .move _ | .assign _ | .pick .. | .field .. | .binOp .. | .unOp .. | .extract .. | .slice .. => true
  | _ => false
theorem evalOp_reg {V : Env} {ρ : Operand → T} {l l' : List AO} {nid nid' : Nat} {o : Oper} (h : isReg o = true) (heff : (evalOp V ρ l nid o).eff = .none) (hob : (evalOp V ρ l nid o).ob) : evalOp V ρ l' nid' o = evalOp V ρ l nid o := by
  obtain ⟨dst, op, ty, pos, aft, g⟩ := o
  cases op <;> simp [isReg] at h
  case slice t x lo hi mx =>
    cases mx with
    | some m => simp only [evalOp, R.bad] at hob
    | none =>
      simp only [evalOp] at heff hob ⊢
      split at hob
      · rfl
      · exfalso
        split at hob
        · split at hob
          · simp_all
          · exact hob.elim
        · exact hob.elim
      · exact hob.elim
  all_goals simp only [evalOp]
theorem evalOp_reg_eff {V : Env} {ρ : Operand → T} {l : List AO} {nid : Nat} {o : Oper} (h : isReg o = true) (b : AO) : (evalOp V ρ l nid o).eff ≠ .new b := by
  obtain ⟨dst, op, ty, pos, aft, g⟩ := o
  cases op <;> simp [isReg] at h <;> simp only [evalOp, R.ok]
  · simp
  · simp
  · unfold pickT; simp only
    repeat' split
    all_goals simp [R.bad]
  · unfold ofD; repeat' split
    all_goals simp [R.bad]
  · unfold ofD; repeat' split
    all_goals simp [R.bad]
  · rename_i mx
    cases mx
    · simp only
      repeat' split
      all_goals first | simp [R.bad]; done | (unfold sliceT; repeat' split) 
      all_goals simp [R.bad, R.ok]
    · simp [R.bad]
  · unfold fieldV; repeat' split
    all_goals simp [R.bad, R.ok]
  · repeat' split
    all_goals simp [R.bad]
/-- The variables are as they were. -/
def VarsEq (l l' : List AO) : Prop := ∀ id, isVar l id = true → l'[id]? = l[id]?
theorem VarsEq.refl (l : List AO) : VarsEq l l := fun _ _ => rfl
theorem VarsEq.trans {l l' l'' : List AO} (h : VarsEq l l') (k : VarsEq l' l'') : VarsEq l l'' := fun id hid => (k id (by have := h id hid; unfold isVar at hid ⊢; rw [this]; exact hid)).trans (h id hid)
theorem VarsEq.append (l r : List AO) : VarsEq l (l ++ r) := fun _ hid => List.getElem?_append_left (isVar_lt hid)
theorem VarsEq.set {l : List AO} {id : Nat} (o : AO) (h : isVar l id = false) : VarsEq l (l.set id o) := fun k hk => by
  rw [List.getElem?_set]
  by_cases e : id = k
  · subst e; rw [h] at hk; cases hk
  · simp [e]
theorem toD_vars {l l' : List AO} {t : T} {d : D} (h : toD l t = some (d, l')) : VarsEq l l' := by
  cases t <;> simp only [toD] at h
  case d x => simp at h; rw [← h.2]; exact .refl _
  case nils s => simp at h; rw [← h.2]; exact .refl _
  case row id =>
    split at h
    · simp at h; rw [← h.2]; exact .refl _
    · rename_i hl; simp at h; rw [← h.2]; exact .set _ (by unfold isVar; rw [hl]; rfl)
    · cases h
  case map id =>
    split at h
    · simp at h; rw [← h.2]; exact .refl _
    · rename_i hl; simp at h; rw [← h.2]; exact .set _ (by unfold isVar; rw [hl]; rfl)
    · cases h
  all_goals cases h
theorem appendT_vars {E : TEnv} {t : TypeId} {l : List AO} {nid : Nat} {s x : T} : (∀ l', (appendT E t l nid s x).eff = .upd l' → VarsEq l l') ∧ ∀ a, (appendT E t l nid s x).eff ≠ .new a := by
  unfold appendT
  split; rotate_left
  · exact ⟨by simp [R.bad], by simp [R.bad]⟩
  split; rotate_left
  · exact ⟨by simp [R.bad], by simp [R.bad]⟩
  split; rotate_left
  · exact ⟨by simp [R.bad], by simp [R.bad]⟩
  rename_i hx
  have hv := toD_vars hx
  split; rotate_left
  · exact ⟨by simp [R.bad], by simp [R.bad]⟩
  split
  · refine ⟨fun l' h => ?_, by simp⟩
    simp at h; rw [← h]; exact hv.trans (.append _ _)
  · split; rotate_left
    · exact ⟨by simp [R.bad], by simp [R.bad]⟩
    rename_i hl
    split; rotate_left
    · exact ⟨by simp [R.bad], by simp [R.bad]⟩
    refine ⟨fun l' h => ?_, by simp⟩
    simp at h; rw [← h]
    exact (hv.trans (.set _ (by unfold isVar; rw [hl]; rfl))).trans (.append _ _)
  · exact ⟨by simp [R.bad], by simp [R.bad]⟩

/-- Operations that leave variables as they are. -/
def keepsV (o : Oper) : Bool := isReg o || match o.op with
  | .buildSlice _ n _ => n != 0
  | .call c => (match c.callee with | .builtin .append => true | _ => false)
  | .load .. => true
  | _ => false
theorem loadEl_eff {i : TI} {size : Nat} {els : List D} {k off : Nat} : (loadEl i size els k off).eff = .none := by
  unfold loadEl; repeat' split
  all_goals simp [R.ok, R.bad]
theorem loadAs_eff {E : TEnv} {t : TypeId} {l : List AO} {a : T} : (loadAs E t l a).eff = .none := by
  unfold loadAs; repeat' split
  all_goals first | exact loadEl_eff | simp [R.ok, R.bad]
theorem keepsV_eff {V : Env} {ρ : Operand → T} {l : List AO} {nid : Nat} {o : Oper} (h : keepsV o = true) : (∀ l', (evalOp V ρ l nid o).eff = .upd l' → VarsEq l l') ∧ ∀ a, (evalOp V ρ l nid o).eff ≠ .new a := by
  obtain ⟨dst, op, ty, pos, aft, g⟩ := o
  have nn : ∀ {r : R}, r.eff = .none → (∀ l', r.eff = .upd l' → VarsEq l l') ∧ ∀ a, r.eff ≠ .new a := fun e => ⟨by rw [e]; simp, by rw [e]; simp⟩
  cases op <;> simp [keepsV, isReg] at h <;> simp only [evalOp]
  case call c =>
    obtain ⟨cal, args, ats⟩ := c
    cases cal <;> simp at h
    rename_i b
    cases b <;> simp at h
    simp only
    split
    · split
      · exact appendT_vars
      · exact nn rfl
    · exact nn rfl
  case slice t x lo hi mx =>
    cases mx with
    | some m => exact nn rfl
    | none =>
      simp only
      split
      · split
        · refine nn ?_
          unfold sliceT; repeat' split
          all_goals simp [R.ok, R.bad]
        · exact nn rfl
      · split
        · rename_i hx
          split
          · refine ⟨fun l' h => ?_, by simp⟩
            simp at h; rw [← h]; exact toD_vars hx
          · exact nn rfl
        · exact nn rfl
      · exact nn rfl
  case pick c a b =>
    refine nn ?_
    unfold pickT; simp only
    repeat' split
    all_goals simp [R.bad]
  all_goals refine nn ?_
  all_goals first
    | exact loadAs_eff
    | (unfold pickT; repeat' split) <;> simp [R.ok, R.bad]; done
    | (unfold ofD; repeat' split) <;> simp [R.ok, R.bad]; done
    | (unfold fieldV; repeat' split) <;> simp [R.ok, R.bad]; done
    | (repeat' split) <;> simp_all [R.ok, R.bad, ofD]; done
    | skip

/-- A floater: of slots alone, a load, a list of data. -/
def isFl (o : Oper) : Bool := isReg o || match o.op with
  | .buildSlice _ n _ => n != 0
  | .load .. => true
  | _ => false
def noRow (ρ : Operand → T) (o : Oper) : Bool := match o.op with
  | .load _ a => (match ρ a with | .rptr .. => false | _ => true)
  | _ => true
theorem evalOp_fl {V : Env} {ρ : Operand → T} {l l' : List AO} {nid nid' : Nat} {o : Oper} (h : isFl o = true) (hr : noRow ρ o = true) (hl : VarsEq l l') (heff : (evalOp V ρ l nid o).eff = .none) (hob : (evalOp V ρ l nid o).ob) : evalOp V ρ l' nid' o = evalOp V ρ l nid o := by
  by_cases hreg : isReg o = true
  · exact evalOp_reg hreg heff hob
  obtain ⟨dst, op, ty, pos, aft, g⟩ := o
  unfold isFl at h
  simp only [hreg] at h
  cases op <;> simp at h
  case buildSlice t n parts =>
    simp only [evalOp, if_neg h]
  case load t a =>
    simp only [evalOp] at hob ⊢
    simp only [noRow] at hr
    generalize ρ a = x at *
    cases x <;> try rfl
    case ptr id off =>
      simp only [loadAs] at hob ⊢
      have : l'[id]? = l[id]? := by
        refine hl id ?_
        unfold isVar
        split at hob
        · rename_i hx; rw [hx]; rfl
        · exact hob.elim
      rw [this]
    case rptr => cases hr
end Go.Eva

/-
  Eva, part Pb: regions that draw, where some operations of slots alone ('floaters') may come later than the tail begins.
-/
namespace Go.Eva
open Go Go.RowKit
variable [Drw]

/-- What an operation waits for, through others too. -/
def waitsT (ops : List Oper) : Nat → Oper → Nat → Bool
  | 0, o, j => (waits o).contains j
  | n + 1, o, j => (waits o).contains j || (waits o).any fun k => match ops[k]? with | some q => waitsT ops n q j | none => false
def tailOk2 (ops : List Oper) (n1 : Nat) (F : List Nat) : Bool := (List.range ops.length).all fun i => decide (i < n1) || match ops[i]? with | some o => (List.range i).all (fun j => F.contains j || waitsT ops 8 o j) | none => true
/-- What a listed operation waits for is listed. -/
def Closed (ops : List Oper) (listed : Array Bool) : Prop := ∀ (i : Nat) o, ops[i]? = some o → listed.getD i false = true → ∀ j ∈ waits o, listed.getD j false = true
theorem waitsT_listed {ops : List Oper} {listed : Array Bool} (hc : Closed ops listed) : ∀ (n : Nat) (o : Oper) (j : Nat), (∀ k ∈ waits o, listed.getD k false = true) → waitsT ops n o j = true → listed.getD j false = true
  | 0, o, j, hw, h => hw j (List.contains_iff_mem.1 h)
  | n + 1, o, j, hw, h => by
    unfold waitsT at h
    rw [Bool.or_eq_true] at h
    rcases h with h | h
    · exact hw j (List.contains_iff_mem.1 h)
    · obtain ⟨k, hk, h2⟩ := List.any_eq_true.1 h
      cases hq : ops[k]? with
      | none => rw [hq] at h2; cases h2
      | some q =>
        rw [hq] at h2
        exact waitsT_listed hc n q j (hc k q hq (hw k hk)) h2
theorem Closed.step {ops : List Oper} {listed L' : Array Bool} (hc : Closed ops listed) {i : Nat} {o : Oper} (ho : ops[i]? = some o) (hw : ∀ j ∈ waits o, listed.getD j false = true) (hL : ∀ k, L'.getD k false = if k = i then true else listed.getD k false) : Closed ops L' := by
  intro k q hq hk j hj
  rw [hL] at hk ⊢
  split
  · rfl
  · by_cases hki : k = i
    · subst hki; rw [ho] at hq; cases hq; exact hw j hj
    · rw [if_neg hki] at hk; exact hc k q hq hk j hj
def floatOk0 (ops : List Oper) (n1 : Nat) (F : List Nat) : Bool := F.all fun f => decide (f < n1) && match ops[f]? with
  | some o => o.guard.isNone && (List.range ops.length).all fun i => decide (i < n1) || match ops[i]? with
    | some q => ((waits q).contains f || match q.dst with | some d => !(readsOf ops o).contains d && o.dst != some d | none => true) && (match o.dst with | some d => !(readsOf ops q).contains d || (waits q).contains f | none => true)
    | none => true
  | none => false
def floatOk (ops : List Oper) (n1 : Nat) (F : List Nat) : Bool := (F.all fun f => match ops[f]? with | some o => isReg o | none => true) && floatOk0 ops n1 F
/-- A floater's result hangs on no memory that the tail turns. -/
def Indep (V : Env) (B : Bool) (l0 : List AO) (o : Oper) (x : Rec) : Prop := x.new = none ∧ (x.pc = [] → x.ob → ∀ l', (B = true ∨ VarsEq l0 l') → evalOp V (fun y => (strip x.pc (evT x.tm y)).1) l' 0 o = ⟨x.t, .none, x.ob⟩)

section
variable {P : Program} {V : Env} {w0 : World} {I0 : Imm} {n : Nat} {md : Way} {ops : List Oper} {Q : Exit → Act → World → Prop} {K : St → Prop}

theorem tail2uat {n1 : Nat} {F : List Nat} (h : tailOk2 ops n1 F = true) {i : Nat} {o : Oper} (ho : ops[i]? = some o) (hi : n1 ≤ i) : ∀ j, j < i → j ∉ F → waitsT ops 8 o j = true := by
  intro j hj hF
  have := List.all_eq_true.1 h i (List.mem_range.2 (List.getElem?_eq_some_iff.1 ho).1)
  simp only [ho, Bool.or_eq_true, decide_eq_true_eq, List.all_eq_true, List.mem_range, List.contains_iff_mem] at this
  rcases this with h | h
  · omega
  · exact (h j hj).resolve_left hF
theorem float_at {n1 : Nat} {F : List Nat} (h : floatOk0 ops n1 F = true) {f : Nat} (hf : f ∈ F) : f < n1 ∧ ∀ o, ops[f]? = some o → o.guard = none ∧
    ∀ (i : Nat) q, n1 ≤ i → ops[i]? = some q → (f ∈ waits q ∨ ∀ d, q.dst = some d → d ∉ readsOf ops o ∧ o.dst ≠ some d) ∧ (∀ d, o.dst = some d → d ∈ readsOf ops q → f ∈ waits q) := by
  have := List.all_eq_true.1 h f hf
  simp only [Bool.and_eq_true, decide_eq_true_eq] at this
  obtain ⟨h1, h2⟩ := this
  refine ⟨h1, fun o ho => ?_⟩
  simp only [ho, Bool.and_eq_true, Option.isNone_iff_eq_none] at h2
  obtain ⟨h4, h5⟩ := h2
  refine ⟨h4, fun i q hi hq => ?_⟩
  have := List.all_eq_true.1 h5 i (List.mem_range.2 (List.getElem?_eq_some_iff.1 hq).1)
  simp only [hq] at this
  rw [Bool.or_eq_true, decide_eq_true_eq, Bool.and_eq_true] at this
  have this := this.resolve_left (by omega)
  obtain ⟨h6, h7⟩ := this
  refine ⟨?_, fun d hd hr => ?_⟩
  · rw [Bool.or_eq_true] at h6
    refine h6.imp (fun h => List.contains_iff_mem.1 h) fun h6 d hd => ?_
    simp only [hd, Bool.and_eq_true, Bool.not_eq_true', bne_iff_ne, ne_eq] at h6
    exact ⟨fun hm => (by have := List.contains_iff_mem.2 hm; rw [h6.1] at this; cases this), h6.2⟩
  · simp only [hd, Bool.or_eq_true, Bool.not_eq_true', List.contains_iff_mem] at h7
    rcases h7 with h7 | h7
    · have := List.contains_iff_mem.2 hr; rw [h7] at this; cases this
    · exact h7

/-- The slots that are still to come. -/
def pend (ops : List Oper) (F : List Nat) (listed : Array Bool) : List Nat := (F.filter fun f => !listed.getD f false).filterMap fun f => (ops[f]?).bind (·.dst)
theorem mem_pend {F : List Nat} {listed : Array Bool} {k : Nat} : k ∈ pend ops F listed ↔ ∃ f o, f ∈ F ∧ listed.getD f false = false ∧ ops[f]? = some o ∧ o.dst = some k := by
  unfold pend
  simp only [List.mem_filterMap, List.mem_filter, Bool.not_eq_true']
  constructor
  · rintro ⟨f, ⟨h1, h2⟩, h3⟩
    cases ho : ops[f]? with
    | none => simp [ho] at h3
    | some o => simp [ho] at h3; exact ⟨f, o, h1, h2, ho, h3⟩
  · rintro ⟨f, o, h1, h2, h3, h4⟩
    exact ⟨f, ⟨h1, h2⟩, by simp [h3, h4]⟩

structure TInv (w0 : World) (I0 : Imm) (n : Nat) (B : Bool) (l0 : List AO) (ops : List Oper) (F : List Nat) (rs : List Rec) (s : St) (listed : Array Bool) (a : Act) (w : World) : Prop where
  size : a.tmps.size = n
  defers : a.defers = []
  rel : ∃ I m, WRel w0 I0 w I m s.l ∧ ∀ k, k ∉ pend ops F listed → RdT I m s.l (a.tmps.getD k undef) (get s.t k)
  fl : ∀ (f : Nat) o x, f ∈ F → listed.getD f false = false → ops[f]? = some o → rs[f]? = some x → (∀ t ∈ readsOf ops o, get s.t t = get x.tm t) ∧ ∀ d, o.dst = some d → get s.t d = x.out
  vars : B = true ∨ VarsEq l0 s.l

theorem get_undefs (s : Tm) (k : Nat) : ∀ (ds : List Nat), get (ds.map (fun d => (d, T.undef)) ++ s) k = if k ∈ ds then .undef else get s k
  | [] => by simp
  | d :: ds => by
    simp only [List.map_cons, List.cons_append, get, List.mem_cons]
    rw [get_undefs s k ds]
    by_cases h : d = k
    · subst h; simp
    · rw [if_neg h]; have : k ≠ d := fun e => h e.symm
      simp [this]

theorem evT_agree {s s' : Tm} {x : Operand} (h : ∀ t, x = .tmp t → get s t = get s' t) : evT s x = evT s' x := by
  cases x with
  | tmp t => exact h t rfl
  | _ => rfl
theorem guardPc_agree {s s' : Tm} {o : Oper} (h : ∀ t ∈ readsOf ops o, get s t = get s' t) : guardPc ops s o.guard = guardPc ops s' o.guard := by
  cases hg : o.guard with
  | none => rfl
  | some jb =>
    obtain ⟨j, b⟩ := jb
    simp only [guardPc]
    cases hd : (ops[j]?).bind (·.dst) with
    | none => rfl
    | some d =>
      simp only
      rw [h d (List.mem_append_right _ (by rw [hg]; simp only; rw [hd]; simp))]
theorem opRes_agree {V : Env} {pc : PC} {s s' : St} {o : Oper} (hl : s.l = s'.l) (h : ∀ t ∈ readsOf ops o, get s.t t = get s'.t t) : opRes V pc s o = opRes V pc s' o := by
  have hx : ∀ x ∈ o.op.operands, evT s.t x = evT s'.t x := fun x hx => evT_agree fun t ht => h t (List.mem_append_left _ (List.mem_filterMap.2 ⟨x, by simpa using hx, by rw [ht]⟩))
  cases pc with
  | nil => simp only [opRes, hl]; exact evalOp_congr hx
  | cons y pc =>
    simp only [opRes, hl]
    have e1 := evalOp_congr (V := V) (ρ := fun x => (strip (y :: pc) (evT s.t x)).1) (ρ' := fun x => (strip (y :: pc) (evT s'.t x)).1) (l := s'.l) (nid := s'.l.length) (o := o) (fun x hx' => by simp only [hx x hx'])
    have e2 : o.op.operands.toList.map (fun x => (strip (y :: pc) (evT s.t x)).2) = o.op.operands.toList.map (fun x => (strip (y :: pc) (evT s'.t x)).2) := List.map_congr_left fun x hx' => by rw [hx x (by simpa using hx')]
    rw [e1, e2]

theorem after_form {s s' : St} {dst : Option Nat} {pc : PC} {t : T} {eff : Eff} (h : after s dst pc ⟨t, eff, True⟩ = some s') : ∃ u l', s' = ⟨putT s.t dst u, l'⟩ ∧ ∀ st : St, st.l = s.l → after st dst pc ⟨t, eff, True⟩ = some ⟨putT st.t dst u, l'⟩ := by
  unfold after at h
  simp only at h
  split at h
  · injection h with h; exact ⟨_, _, h.symm, fun st e => by unfold after; simp only [e]⟩
  · injection h with h; exact ⟨_, _, h.symm, fun st e => by unfold after; simp only [e]⟩
  · injection h with h; exact ⟨_, _, h.symm, fun st e => by unfold after; simp only⟩
  · rename_i hpc
    injection h with h
    cases pc with
    | nil => exact absurd rfl hpc
    | cons y r => exact ⟨_, _, h.symm, fun st e => by unfold after; simp only [e]⟩
  · cases h
theorem evalSeq_cons {md : Way} {o : Oper} {r : List Oper} {s st : St} {K : St → Prop} (h : evalSeq V n ops md (o :: r) s K) (hl : st.l = s.l) (ha : ∀ t ∈ readsOf ops o, get st.t t = get s.t t) :
    ∃ u l', evalSeq V n ops md [o] st (fun q => q = ⟨putT st.t o.dst u, l'⟩) ∧ evalSeq V n ops md r ⟨putT s.t o.dst u, l'⟩ K := by
  simp only [evalSeq] at h
  split at h
  · exact h.elim
  rename_i pc hg
  have hg' : guardPc ops st.t o.guard = some pc := (guardPc_agree ha).trans hg
  have hop : ∀ qc, opRes V qc st o = opRes V qc s o := fun qc => opRes_agree hl ha
  cases md with
  | none =>
    simp only at h
    obtain ⟨hob, hdst, h⟩ := h
    split at h
    · rename_i s' hs'
      obtain ⟨u, l', rfl, hs2⟩ := after_form hs'
      refine ⟨u, l', ?_, h⟩
      simp only [evalSeq, hg', hop]
      refine ⟨hob, hdst, ?_⟩
      rw [hs2 st hl]; first | done | rfl
    · exact h.elim
  | some sk =>
    simp only at h
    split at h
    · rename_i hsk
      obtain ⟨hno, hdst, h⟩ := h
      refine ⟨gone, s.l, ?_, h⟩
      simp only [evalSeq, hg', if_pos hsk]
      exact ⟨hno, hdst, by rw [hl]⟩
    · rename_i hsk
      obtain ⟨hyes, hob, hdst, h⟩ := h
      split at h
      · rename_i s' hs'
        obtain ⟨u, l', rfl, hs2⟩ := after_form hs'
        refine ⟨u, l', ?_, h⟩
        simp only [evalSeq, hg', if_neg hsk, hop]
        refine ⟨hyes, hob, hdst, ?_⟩
        rw [hs2 st hl]; first | done | rfl
      · exact h.elim

theorem after_vars {V : Env} {ρ : Operand → T} {s : St} {o : Oper} {pc : PC} {t : T} {eff : Eff} {t' : Tm} {l' : List AO} (h : keepsV o = true) (he : (evalOp V ρ s.l s.l.length o).eff = eff) (ha : after s o.dst pc ⟨t, eff, True⟩ = some ⟨t', l'⟩) : VarsEq s.l l' := by
  obtain ⟨k1, k2⟩ := keepsV_eff (V := V) (ρ := ρ) (l := s.l) (nid := s.l.length) h
  rw [he] at k1 k2
  unfold after at ha
  simp only at ha
  split at ha
  · injection ha with ha; injection ha with _ ha; rw [← ha]; exact .refl _
  · exact absurd rfl (k2 _)
  · injection ha with ha; injection ha with _ ha; rw [← ha]; exact k1 _ rfl
  · injection ha with ha; injection ha with _ ha; rw [← ha]; exact .refl _
  · cases ha
theorem opRes_eff {V : Env} {pc : PC} {s : St} {o : Oper} : ∃ ρ, (opRes V pc s o).eff = (evalOp V ρ s.l s.l.length o).eff := by
  cases pc with
  | nil => exact ⟨_, rfl⟩
  | cons y r => exact ⟨_, rfl⟩
theorem evalSeq_vars {md : Way} {o : Oper} {st : St} {t' : Tm} {l' : List AO} (hk : keepsV o = true) (h : evalSeq V n ops md [o] st (fun q => q = ⟨t', l'⟩)) : VarsEq st.l l' := by
  simp only [evalSeq] at h
  split at h
  · exact h.elim
  rename_i pc hg
  cases md with
  | none =>
    simp only at h
    obtain ⟨_, _, h⟩ := h
    split at h
    · rename_i s' hs'
      subst h
      obtain ⟨ρ, hρ⟩ := opRes_eff (V := V) (pc := pc) (s := st) (o := o)
      exact after_vars hk hρ.symm hs'
    · exact h.elim
  | some sk =>
    simp only at h
    split at h
    · obtain ⟨_, _, h⟩ := h
      injection h with _ h; rw [← h]; exact .refl _
    · obtain ⟨_, _, _, h⟩ := h
      split at h
      · rename_i s' hs'
        subst h
        obtain ⟨ρ, hρ⟩ := opRes_eff (V := V) (pc := []) (s := st) (o := o)
        exact after_vars hk hρ.symm hs'
      · exact h.elim

/-- The tail, with floaters that are still to come. -/
theorem tail2uok (hV : VOk P V) (hK : ∀ s a w, K s → Rel w0 I0 n s a w → Q .normal a w) {n1 : Nat} {F : List Nat} (hlex : lexOk ops = true) (htail : tailOk2 ops n1 F = true) (hpure : pureOk ops n1 = true) (hfl : floatOk0 ops n1 F = true) (hn1 : n1 ≤ ops.length) {s0 : St} {rs : List Rec} {B : Bool} (hinF : ∀ (f : Nat) o x, f ∈ F → ops[f]? = some o → rs[f]? = some x → Indep V B s0.l o x) (hkp : B = true ∨ ∀ (i : Nat) o, n1 ≤ i → ops[i]? = some o → keepsV o = true) 
    (hrs : RecsOk V n ops s0.l (ops.take n1) 0 s0.t 0 rs) :
    ∀ (fuel j : Nat) (s : St) (a : Act) (w : World) (listed : Array Bool), listed.size = ops.length → unl ops.length listed = fuel → (∀ i, i < ops.length → i ∉ F → listed.getD i false = decide (i < j)) → n1 ≤ j → j ≤ ops.length → Closed ops listed → TInv w0 I0 n B s0.l ops F rs s listed a w → evalSeq V n ops md (ops.drop j) s K →
      wpAny P .any ops.toArray Q fuel listed a w := by
  have hrl : rs.length = n1 := by rw [hrs.len]; simp; omega
  intro fuel
  induction fuel with
  | zero =>
    intro j s a w listed hs hu hl hj hjl hcl hinv h
    have hall : ∀ i, i < ops.length → listed.getD i false = true := by
      intro i hi
      have := List.length_eq_zero_iff.1 hu
      have := (List.filter_eq_nil_iff.1 this) i (List.mem_range.2 hi)
      simpa using this
    have hjN : j = ops.length := by
      rcases Nat.lt_or_ge j ops.length with h' | h'
      · have hjF : j ∉ F := fun hF => by have := (float_at hfl hF).1; omega
        have := hl j h' hjF
        rw [hall j h'] at this; simp at this
      · omega
    rw [List.drop_eq_nil_of_le (by omega)] at h
    obtain ⟨h1, h2, ⟨I, m, h3, h4⟩, h5, _⟩ := hinv
    refine ⟨?_, hK s a w h ⟨h1, h2, I, m, h3, fun k => h4 k fun hk => ?_⟩⟩
    · refine List.eq_nil_iff_forall_not_mem.2 fun i hi => ?_
      have hlt := ready_lt hi
      have := ((ready_iff hs hlt (List.getElem?_eq_getElem hlt)).1 hi).1
      rw [hall i hlt] at this; cases this
    · obtain ⟨f, o, q1, q2, q3, _⟩ := mem_pend.1 hk
      rw [hall f (List.getElem?_eq_some_iff.1 q3).1] at q2; cases q2
  | succ fuel ih =>
    intro j s a w listed hs hu hl hj hjl hcl hinv h
    -- the least that is still to come may come
    have hleast : ∃ i, i < ops.length ∧ listed.getD i false = false ∧ ∀ k, k < i → listed.getD k false = true := by
      have hex : ∃ i, i < ops.length ∧ listed.getD i false = false := by
        refine Classical.byContradiction fun hh => ?_
        have : unl ops.length listed = 0 := by
          unfold unl
          rw [List.filter_eq_nil_iff.2 fun i hi => by
            have hi := List.mem_range.1 hi
            cases hb : listed.getD i false with
            | true => simp
            | false => exact absurd ⟨i, hi, hb⟩ hh]
          rfl
        omega
      obtain ⟨i, hi⟩ := hex
      induction i using Nat.strongRecOn with
      | ind i ih' =>
        by_cases hh : ∃ k, k < i ∧ listed.getD k false = false
        · obtain ⟨k, hk, hb⟩ := hh
          exact ih' k hk ⟨by omega, hb⟩
        · refine ⟨i, hi.1, hi.2, fun k hk => ?_⟩
          cases hb : listed.getD k false with
          | true => rfl
          | false => exact absurd ⟨k, hk, hb⟩ hh
    obtain ⟨i0, hi0, hb0, hbl⟩ := hleast
    have ho0 : ops[i0]? = some ops[i0] := List.getElem?_eq_getElem (by omega)
    have hready0 : i0 ∈ Region.ready .any ops.toArray listed := (ready_iff hs (by omega) ho0).2 ⟨hb0, fun k hk => hbl k (lex_at hlex ho0 k hk)⟩
    refine ⟨fun h0 => (by rw [h0] at hready0; cases hready0), fun i hi => ?_⟩
    have hlt := ready_lt hi
    have hoi : ops[i]? = some ops[i] := List.getElem?_eq_getElem hlt
    obtain ⟨h1, h2⟩ := (ready_iff hs hlt hoi).1 hi
    have hu' : unl ops.length (listed.setIfInBounds i true) = fuel := by have := unl_set hs hlt h1; omega
    have hL' : ∀ k, (listed.setIfInBounds i true).getD k false = if k = i then true else listed.getD k false := fun k => getD_set hs hlt
    generalize ops[i] = o at hoi h2
    unfold wpOp
    have harr : ops.toArray[i]? = some o := by simpa using hoi
    simp only [harr]
    obtain ⟨hsz, hdf, ⟨I, m, hw, ht⟩, hfi, hvars⟩ := hinv
    by_cases hiF : i ∈ F
    · -- a floater
      obtain ⟨hin, hfo⟩ := float_at hfl hiF
      obtain ⟨hgn, hfar⟩ := hfo o hoi
      have hx : rs[i]? = some rs[i] := List.getElem?_eq_getElem (by omega)
      generalize rs[i] = x at hx
      obtain ⟨hrec, htm, hnid⟩ := hrs.at_ i o x (by rw [List.getElem?_take, if_pos hin]; exact hoi) hx
      obtain ⟨⟨qc, hg, hqp⟩, hgnn, hres, hob, hdst, hnew, hgone⟩ := hrec
      have hpc : x.pc = [] := hgnn hgn
      obtain ⟨hnn, hind⟩ := hinF i o x hiF hoi hx
      obtain ⟨hfr, hfd⟩ := hfi i o x hiF h1 hoi hx
      have hslot : ∀ t, t ∈ readsOf ops o → RdT I m s.l (a.tmps.getD t undef) (get x.tm t) := by
        intro t htr
        rw [← hfr t htr]
        refine ht t fun hp => ?_
        obtain ⟨f, q, q1, q2, q3, q4⟩ := mem_pend.1 hp
        have := (pure_at hpure hin (float_at hfl q1).1 hoi q3 q4).2 htr
        rw [h2 f this.2] at q2; cases q2
      have hev : ∀ y ∈ o.op.operands, RdT I m s.l (a.eval y) (evT x.tm y) := by
        intro y hy
        cases y with
        | tmp t => exact hslot t (List.mem_append_left _ (List.mem_filterMap.2 ⟨.tmp t, by simpa using hy, rfl⟩))
        | const v => exact constT_ok v
        | global g => exact .undef _
        | func f => exact .d _ _ (.fn f)
      have hwant := wanted_ok' (ops := ops) (a := a) (fun j b d hgd hd => hslot d (List.mem_append_right _ (by rw [hgd]; simp only; rw [hd]; simp))) hg
      have hwant := hwant.trans hqp
      have hp : holds x.pc := by rw [hpc]; trivial
      rw [if_pos (hwant.2 hp)]
      refine .inl ?_
      obtain ⟨hob1, hob2⟩ := hob hp
      have hops : ∀ y ∈ o.op.operands, RdT I m s.l (a.eval y) (strip x.pc (evT x.tm y)).1 := fun y hy =>
        strip_ok (hev y hy) hp (obAll_mem hob2 _ (List.mem_map.2 ⟨y, by simpa using hy, rfl⟩))
      have hres' := hind hpc hob1 s.l hvars
      have hsnd := evalOp_sound (nid := 0) hV hw (Com.refl s.l) hops (by rw [hres']; exact hob1)
      rw [hres'] at hsnd
      unfold RSound at hsnd
      simp only at hsnd
      refine StepOk.wp (hsnd.mono fun v w' ⟨J, hle, hw', hv⟩ => ?_)
      refine ih j s _ w' _ (by simp [hs]) hu' (fun k hk hkF => by rw [hL' k, if_neg (show ¬ k = i from fun e => hkF (e ▸ hiF))]; exact hl k hk hkF) hj hjl (hcl.step hoi h2 hL') ?_ h
      refine ⟨by cases o.dst <;> simp [Act.put, hsz], by cases o.dst <;> simp [Act.put, hdf], ⟨J, m, hw', fun k hk => ?_⟩, fun f q y hf hlf hq hy => ?_, ?_⟩
      · by_cases hkd : o.dst = some k
        · have hdn : k < n := by rw [hkd] at hdst; simpa [dstOk] using hdst
          have : (a.put o.dst v).tmps.getD k undef = v := by simp [hkd, Act.put, Array.getD_eq_getD_getElem?, hsz, hdn]
          rw [this, hfd k hkd]
          unfold Rec.out; rw [if_pos hpc]; exact hv
        · have : (a.put o.dst v).tmps.getD k undef = a.tmps.getD k undef := by
            cases hod : o.dst with
            | none => rfl
            | some d' =>
              have : d' ≠ k := fun e => hkd (by rw [hod, e])
              simp [Act.put, Array.getD_eq_getD_getElem?, this]
          rw [this]
          refine (ht k fun hp' => hk ?_).mono hle
          obtain ⟨f, q, q1, q2, q3, q4⟩ := mem_pend.1 hp'
          refine mem_pend.2 ⟨f, q, q1, ?_, q3, q4⟩
          rw [hL' f, if_neg]; · exact q2
          rintro rfl; rw [hoi] at q3; injection q3 with q3; subst q3; exact hkd q4
      · have hne : f ≠ i := by rintro rfl; rw [hL' f, if_pos rfl] at hlf; cases hlf
        exact hfi f q y hf (by rw [hL' f, if_neg hne] at hlf; exact hlf) hq hy
      · exact hvars
    · -- the tail's next
      have hij : i = j := by
        have h1' := h1
        rw [hl i hlt hiF] at h1'
        have h1' : ¬ i < j := by simpa using h1'
        rcases Nat.lt_or_ge j i with hlt' | hge
        · have hjF : j ∉ F := fun hF => by have := (float_at hfl hF).1; omega
          have := waitsT_listed hcl 8 o j h2 (tail2uat htail hoi (by omega) j hlt' hjF)
          rw [hl j (by omega) hjF] at this; simp at this
        · omega
      subst hij
      have hjl' : i < ops.length := hlt
      rw [List.drop_eq_getElem_cons hjl'] at h
      have hoe : ops[i] = o := by have := List.getElem?_eq_getElem hjl'; rw [hoi] at this; injection this with this; exact this.symm
      rw [hoe] at h
      let st : St := ⟨(pend ops F listed).map (fun d => (d, T.undef)) ++ s.t, s.l⟩
      have hget : ∀ k, k ∉ pend ops F listed → get st.t k = get s.t k := fun k hk => by simp only [st]; rw [get_undefs, if_neg hk]
      have hrelT : Rel w0 I0 n st a w := by
        refine ⟨hsz, hdf, I, m, hw, fun k => ?_⟩
        by_cases hk : k ∈ pend ops F listed
        · simp only [st]; rw [get_undefs, if_pos hk]; exact .undef _
        · rw [hget k hk]; exact ht k hk
      have hagree : ∀ t ∈ readsOf ops o, get st.t t = get s.t t := fun t htr => hget t fun hp => by
        obtain ⟨f, q, q1, q2, q3, q4⟩ := mem_pend.1 hp
        have := ((float_at hfl q1).2 q q3).2 i o hj hoi
        have := this.2 t q4 htr
        rw [h2 f this] at q2; cases q2
      obtain ⟨u, l', hstep, h⟩ := evalSeq_cons (st := st) h rfl hagree
      have hvars' : B = true ∨ VarsEq s0.l l' := by
        rcases hvars with hB | hvars
        · exact .inl hB
        rcases hkp with hB | hkp
        · exact .inl hB
        exact .inr (hvars.trans (evalSeq_vars (st := st) (hkp i o hj hoi) hstep))
      refine evalSeq_step hV hrelT hstep fun q a' w' hq hr' => ?_
      simp only [evalSeq] at hq
      subst hq
      obtain ⟨r1, r2, J, m', r3, r4⟩ := hr'
      have hpe : ∀ k, k ∈ pend ops F (listed.setIfInBounds i true) ↔ k ∈ pend ops F listed := fun k => by
        rw [mem_pend, mem_pend]
        constructor
        · rintro ⟨f, q, q1, q2, q3, q4⟩
          exact ⟨f, q, q1, by rw [hL' f, if_neg (show ¬ f = i from fun e => hiF (e ▸ q1))] at q2; exact q2, q3, q4⟩
        · rintro ⟨f, q, q1, q2, q3, q4⟩
          exact ⟨f, q, q1, by rw [hL' f, if_neg (show ¬ f = i from fun e => hiF (e ▸ q1))]; exact q2, q3, q4⟩
      refine ih (i + 1) ⟨putT s.t o.dst u, l'⟩ a' w' _ (by simp [hs]) hu' (fun k hk hkF => by rw [hL' k, hl k hk hkF]; by_cases e : k = i <;> simp [e] <;> (try omega)) (by omega) (by omega) (hcl.step hoi h2 hL') ⟨r1, r2, ⟨J, m', r3, fun k hk => ?_⟩, fun f q y hf hlf hq hy => ?_, hvars'⟩ h
      · have := r4 k
        have hk' : k ∉ pend ops F listed := fun e => hk ((hpe k).2 e)
        have e : get (putT st.t o.dst u) k = get (putT s.t o.dst u) k := by
          cases o.dst with
          | none => exact hget k hk'
          | some d =>
            simp only [putT, get]
            split
            · rfl
            · exact hget k hk'
        show RdT J m' l' _ (get (putT s.t o.dst u) k)
        rw [← e]; exact this
      · have hlf' : listed.getD f false = false := by rw [hL' f, if_neg (show ¬ f = i from fun e => hiF (e ▸ hf))] at hlf; exact hlf
        obtain ⟨g1, g2⟩ := hfi f q y hf hlf' hq hy
        have hfar := ((float_at hfl hf).2 q hq).2 i o hj hoi
        have hfar := And.intro (hfar.1.resolve_left (fun hw => by rw [h2 f hw] at hlf'; cases hlf')) hfar.2
        have hput : ∀ t, o.dst ≠ some t → get (putT s.t o.dst u) t = get s.t t := fun t hne => by
          cases hod : o.dst with
          | none => rfl
          | some d => simp only [putT, get]; rw [if_neg (fun e => hne (by rw [hod, e]))]
        refine ⟨fun t htr => ?_, fun d hd => ?_⟩
        · exact (hput t (fun e => (hfar.1 t e).1 htr)).trans (g1 t htr)
        · exact (hput d (fun e => (hfar.1 d e).2 hd)).trans (g2 d hd)

theorem tinv_of_inv {n1 : Nat} {F : List Nat} (hpure : pureOk ops n1 = true) (hfl : floatOk0 ops n1 F = true) (hn1 : n1 ≤ ops.length) {s0 : St} {rs : List Rec} {B : Bool} (hinF : ∀ (f : Nat) o x, f ∈ F → ops[f]? = some o → rs[f]? = some x → Indep V B s0.l o x) (hrl : rs.length = n1) (hrs : RecsOk V n ops s0.l (ops.take n1) 0 s0.t 0 rs) {listed : Array Bool} {a : Act} {w : World} (hinv : Inv w0 I0 n n1 ops s0 rs listed a w) (hall : ∀ i, i < n1 → i ∉ F → listed.getD i false = true) :
    TInv w0 I0 n B s0.l ops F rs ⟨tmOf s0.t (ops.take n1) rs, s0.l ++ (newsOf 0 rs).map (·.2)⟩ listed a w := by
  obtain ⟨h1, h2, I, m, h3, h4, h5⟩ := hinv
  have hnewF : ∀ p ∈ newsOf 0 rs, p.1 ∉ F := by
    intro p hp hF
    obtain ⟨i, x, e1, e2, e3⟩ := newsOf_mem rs 0 p hp
    have hi : p.1 = i := by omega
    rw [hi] at hF
    have hin := (float_at hfl hF).1
    have ho : ops[i]? = some ops[i] := List.getElem?_eq_getElem (by omega)
    have := (hinF i _ x hF ho e2).1
    rw [e3] at this; cases this
  have hL : objsAt s0.l (newsOf 0 rs) (fun i => listed.getD i false) = s0.l ++ (newsOf 0 rs).map (·.2) := by
    unfold objsAt
    congr 1
    apply List.map_congr_left
    intro p hp
    have := (newsOf_spec rs 0).1 p hp
    rw [if_pos (hall p.1 (by omega) (hnewF p hp))]
  rw [hL] at h3 h4 h5
  have hat : ∀ (i : Nat) o x k, i < n1 → ops[i]? = some o → rs[i]? = some x → o.dst = some k → get (tmOf s0.t (ops.take n1) rs) k = x.out := fun i o x k hi ho hx hd =>
    get_tmOf_at (ops.take n1) rs s0.t k i o x (by rw [List.getElem?_take, if_pos hi]; exact ho) hx hd (fun j q hq hj => by
      have hjn : j < n1 := by have := (List.getElem?_eq_some_iff.1 hq).1; simp at this; omega
      rw [List.getElem?_take, if_pos hjn] at hq
      exact (pure_at hpure hjn hi hq ho hd).1 hj)
  have hother : ∀ k, (¬ ∃ i o, i < n1 ∧ ops[i]? = some o ∧ o.dst = some k) → get (tmOf s0.t (ops.take n1) rs) k = get s0.t k := fun k hk =>
    get_tmOf_other (ops.take n1) rs s0.t k (fun o ho hd => hk (by
      obtain ⟨i, hi, rfl⟩ := List.mem_iff_getElem.1 ho
      have hi' : i < n1 := by simp at hi; omega
      exact ⟨i, _, hi', by rw [List.getElem?_eq_getElem (by omega)], by simpa using hd⟩))
  refine ⟨h1, h2, ⟨I, m, h3, fun k hnp => ?_⟩, fun f o x hf hlf ho hx => ⟨fun t htr => ?_, fun d hd => ?_⟩, .inr (.append _ _)⟩
  · by_cases hk : ∃ i o, i < n1 ∧ ops[i]? = some o ∧ o.dst = some k
    · obtain ⟨i, o, hi, ho, hd⟩ := hk
      have hx : rs[i]? = some rs[i] := List.getElem?_eq_getElem (by omega)
      have hli : listed.getD i false = true := by
        cases hb : listed.getD i false with
        | true => rfl
        | false =>
          have hiF : i ∈ F := Classical.byContradiction fun hF => by rw [hall i hi hF] at hb; cases hb
          exact absurd (mem_pend.2 ⟨i, o, hiF, hb, ho, hd⟩) hnp
      show RdT I m _ _ (get (tmOf s0.t (ops.take n1) rs) k)
      rw [hat i o _ k hi ho hx hd]
      exact h4 i o _ k hi ho hx hli hd
    · show RdT I m _ _ (get (tmOf s0.t (ops.take n1) rs) k)
      rw [hother k hk]
      exact h5 k (fun i o hi ho _ hd => hk ⟨i, o, hi, ho, hd⟩)
  · -- what a floater reads
    obtain ⟨hin, hfo⟩ := float_at hfl hf
    obtain ⟨_, htm, _⟩ := hrs.at_ f o x (by rw [List.getElem?_take, if_pos hin]; exact ho) hx
    rw [htm, show (ops.take n1).take f = ops.take f by rw [List.take_take]; congr 1; omega]
    show get (tmOf s0.t (ops.take n1) rs) t = _
    by_cases hk : ∃ i o, i < n1 ∧ ops[i]? = some o ∧ o.dst = some t
    · obtain ⟨i, q, hi, hq, hd⟩ := hk
      have hxi : rs[i]? = some rs[i] := List.getElem?_eq_getElem (by omega)
      rw [hat i q _ t hi hq hxi hd]
      obtain ⟨hji, hjw⟩ := (pure_at hpure hin hi ho hq hd).2 htr
      rw [get_tmOf_at (ops.take f) (rs.take f) s0.t t i q _ (by rw [List.getElem?_take, if_pos hji]; exact hq) (by rw [List.getElem?_take, if_pos hji]; exact hxi) hd (fun k q' hq' hk => by
        have hki : k < f := by have := (List.getElem?_eq_some_iff.1 hq').1; simp at this; omega
        rw [List.getElem?_take, if_pos hki] at hq'
        exact (pure_at hpure (by omega) hi hq' hq hd).1 hk)]
    · rw [hother t hk, get_tmOf_other (ops.take f) (rs.take f) s0.t t (fun q hq hd => hk (by
        obtain ⟨j, hj, rfl⟩ := List.mem_iff_getElem.1 hq
        have hj' : j < f := by simp at hj; omega
        exact ⟨j, _, by omega, by rw [List.getElem?_eq_getElem (by omega)], by simpa using hd⟩))]
  · exact hat f o x d (float_at hfl hf).1 ho hx hd

theorem pure2uok (hV : VOk P V) (hK : ∀ s a w, K s → Rel w0 I0 n s a w → Q .normal a w) {n1 : Nat} {F : List Nat} (hlex : lexOk ops = true) (htail : tailOk2 ops n1 F = true) (hfl : floatOk0 ops n1 F = true) (hpure : pureOk ops n1 = true) (hn1 : n1 ≤ ops.length) {s0 : St} {rs : List Rec} {B : Bool} (hinF : ∀ (f : Nat) o x, f ∈ F → ops[f]? = some o → rs[f]? = some x → Indep V B s0.l o x) (hkp : B = true ∨ ∀ (i : Nat) o, n1 ≤ i → ops[i]? = some o → keepsV o = true) 
    (hrs : RecsOk V n ops s0.l (ops.take n1) 0 s0.t 0 rs) (hend : evalSeq V n ops md (ops.drop n1) ⟨tmOf s0.t (ops.take n1) rs, s0.l ++ (newsOf 0 rs).map (·.2)⟩ K) :
    ∀ (fuel : Nat) (a : Act) (w : World) (listed : Array Bool), listed.size = ops.length → unl ops.length listed = fuel → (∀ i, n1 ≤ i → i < ops.length → listed.getD i false = false) → Closed ops listed → Inv w0 I0 n n1 ops s0 rs listed a w →
      wpAny P .any ops.toArray Q fuel listed a w := by
  have hrl : rs.length = n1 := by rw [hrs.len]; simp; omega
  have htk : ∀ i, i < n1 → (ops.take n1)[i]? = ops[i]? := fun i hi => by rw [List.getElem?_take, if_pos hi]
  intro fuel
  induction fuel with
  | zero =>
    intro a w listed hs hu htl hcl hinv
    have hall : ∀ i, i < ops.length → listed.getD i false = true := by
      intro i hi
      have := List.length_eq_zero_iff.1 hu
      have := (List.filter_eq_nil_iff.1 this) i (List.mem_range.2 hi)
      simpa using this
    have hN : n1 = ops.length := by
      rcases Nat.lt_or_ge n1 ops.length with h | h
      · have := htl n1 (Nat.le_refl _) h; rw [hall n1 h] at this; cases this
      · omega
    exact tail2uok hV hK hlex htail hpure hfl hn1 hinF hkp hrs 0 n1 _ a w listed hs hu (fun i hi _ => by rw [hall i hi]; simp; omega) (Nat.le_refl _) hn1 hcl (tinv_of_inv hpure hfl hn1 hinF hrl hrs hinv (fun i hi _ => hall i (by omega))) hend
  | succ fuel ih =>
    intro a w listed hs hu htl hcl hinv
    by_cases hall : ∀ i, i < n1 → i ∉ F → listed.getD i false = true
    · have hl : ∀ i, i < ops.length → i ∉ F → listed.getD i false = decide (i < n1) := by
        intro i hi hF
        by_cases h : i < n1
        · rw [hall i h hF]; simp [h]
        · rw [htl i (by omega) hi]; simp [h]
      exact tail2uok hV hK hlex htail hpure hfl hn1 hinF hkp hrs (fuel + 1) n1 _ a w listed hs hu hl (Nat.le_refl _) hn1 hcl (tinv_of_inv hpure hfl hn1 hinF hrl hrs hinv hall) hend
    · -- the least that is still to come may come
      obtain ⟨hsz, hdf, I, m, hw, hc1, hc2⟩ := hinv
      have hex1 : ∃ i, i < n1 ∧ i ∉ F ∧ listed.getD i false = false := by
        refine Classical.byContradiction fun h => hall fun i hi hF => ?_
        cases hb : listed.getD i false with
        | true => rfl
        | false => exact absurd ⟨i, hi, hF, hb⟩ h
      obtain ⟨i1, hi1, hF1, hb1⟩ := hex1
      have hex : ∃ i, i < n1 ∧ listed.getD i false = false := ⟨i1, hi1, hb1⟩
      have hleast : ∃ i, i < n1 ∧ listed.getD i false = false ∧ ∀ j, j < i → listed.getD j false = true := by
        obtain ⟨i, hi⟩ := hex
        induction i using Nat.strongRecOn with
        | ind i ih' =>
          by_cases h : ∃ j, j < i ∧ listed.getD j false = false
          · obtain ⟨j, hj, hb⟩ := h
            exact ih' j hj ⟨by omega, hb⟩
          · refine ⟨i, hi.1, hi.2, fun j hj => ?_⟩
            cases hb : listed.getD j false with
            | true => rfl
            | false => exact absurd ⟨j, hj, hb⟩ h
      obtain ⟨i0, hi0, hb0, hbl⟩ := hleast
      have ho0 : ops[i0]? = some ops[i0] := List.getElem?_eq_getElem (by omega)
      have hready0 : i0 ∈ Region.ready .any ops.toArray listed := (ready_iff hs (by omega) ho0).2 ⟨hb0, fun j hj => hbl j (lex_at hlex ho0 j hj)⟩
      refine ⟨fun h0 => (by rw [h0] at hready0; cases hready0), fun i hi => ?_⟩
      have hlt := ready_lt hi
      have hoi : ops[i]? = some ops[i] := List.getElem?_eq_getElem hlt
      obtain ⟨h1, h2⟩ := (ready_iff hs hlt hoi).1 hi
      have hin1 : i < n1 := by
        rcases Nat.lt_or_ge i n1 with h | h
        · exact h
        · have := waitsT_listed hcl 8 _ i1 h2 (tail2uat htail hoi h i1 (by omega) hF1); rw [hb1] at this; cases this
      generalize ops[i] = o at hoi h2
      have hx : rs[i]? = some rs[i] := List.getElem?_eq_getElem (by omega)
      generalize rs[i] = x at hx
      obtain ⟨hrec, htm, hnid⟩ := hrs.at_ i o x (by rw [htk i hin1]; exact hoi) hx
      obtain ⟨⟨qc, hg, hqp⟩, hgnn, hres, hob, hdst, hnew, hgone⟩ := hrec
      unfold wpOp
      have : ops.toArray[i]? = some o := by simpa using hoi
      simp only [this]
      -- the slots that it reads
      have hslot : ∀ t, t ∈ readsOf ops o → RdT I m (objsAt s0.l (newsOf 0 rs) fun i => listed.getD i false) (a.tmps.getD t undef) (get x.tm t) := by
        intro t ht
        rw [htm]
        rw [show (ops.take n1).take i = ops.take i by rw [List.take_take]; congr 1; omega]
        by_cases hk : ∃ j q, j < n1 ∧ ops[j]? = some q ∧ q.dst = some t
        · obtain ⟨j, q, hj, hq, hd⟩ := hk
          obtain ⟨hji, hjw⟩ := (pure_at hpure hin1 hj hoi hq hd).2 ht
          have hxj : rs[j]? = some rs[j] := List.getElem?_eq_getElem (by omega)
          rw [get_tmOf_at (ops.take i) (rs.take i) s0.t t j q _ (by rw [List.getElem?_take, if_pos hji]; exact hq) (by rw [List.getElem?_take, if_pos hji]; exact hxj) hd (fun k q' hq' hk => by
            have hki : k < i := by have := (List.getElem?_eq_some_iff.1 hq').1; simp at this; omega
            rw [List.getElem?_take, if_pos hki] at hq'
            exact (pure_at hpure (by omega) hj hq' hq hd).1 hk)]
          exact hc1 j q _ t hj hq hxj (h2 j hjw) hd
        · rw [get_tmOf_other (ops.take i) (rs.take i) s0.t t (fun q hq hd => hk (by
            obtain ⟨j, hj, rfl⟩ := List.mem_iff_getElem.1 hq
            have hj' : j < i := by simp at hj; omega
            exact ⟨j, _, by omega, by rw [List.getElem?_eq_getElem (by omega)], by simpa using hd⟩))]
          exact hc2 t (fun j q hj hq _ hd => hk ⟨j, q, hj, hq, hd⟩)
      have hev : ∀ y ∈ o.op.operands, RdT I m (objsAt s0.l (newsOf 0 rs) fun i => listed.getD i false) (a.eval y) (evT x.tm y) := by
        intro y hy
        cases y with
        | tmp t => exact hslot t (List.mem_append_left _ (List.mem_filterMap.2 ⟨.tmp t, by simpa using hy, rfl⟩))
        | const v => exact constT_ok v
        | global g => exact .undef _
        | func f => exact .d _ _ (.fn f)
      have hwant := wanted_ok' (ops := ops) (a := a) (fun j b d hgd hd => hslot d (List.mem_append_right _ (by rw [hgd]; simp only; rw [hd]; simp))) hg
      have hwant := hwant.trans hqp
      have hu' : unl ops.length (listed.setIfInBounds i true) = fuel := by have := unl_set hs hlt h1; omega
      have htl' : ∀ k, n1 ≤ k → k < ops.length → (listed.setIfInBounds i true).getD k false = false := fun k hk hkl => by
        rw [getD_set hs hlt, if_neg (by omega)]; exact htl k hk hkl
      have hL' : ∀ j, (listed.setIfInBounds i true).getD j false = if j = i then true else listed.getD j false := fun j => getD_set hs hlt
      -- the state behind it
      have next : ∀ (J : Imm) (m' : Nat → Value) (v : Value) (w' : World), Le I m (objsAt s0.l (newsOf 0 rs) fun i => listed.getD i false) J m' (objsAt s0.l (newsOf 0 rs) fun k => (listed.setIfInBounds i true).getD k false) →
          WRel w0 I0 w' J m' (objsAt s0.l (newsOf 0 rs) fun k => (listed.setIfInBounds i true).getD k false) → RdT J m' (objsAt s0.l (newsOf 0 rs) fun k => (listed.setIfInBounds i true).getD k false) v x.out →
          wpAny P .any ops.toArray Q fuel (listed.setIfInBounds i true) (a.put o.dst v) w' := by
        intro J m' v w' hle hw' hv
        refine ih _ _ _ (by simp [hs]) hu' htl' (hcl.step hoi h2 hL') ⟨by cases o.dst <;> simp [Act.put, hsz], by cases o.dst <;> simp [Act.put, hdf], J, m', hw', fun j q y d hj hq hy hl hd => ?_, fun d hd => ?_⟩
        · by_cases hji : j = i
          · subst hji
            rw [hoi] at hq; injection hq with hq; subst hq
            rw [hx] at hy; injection hy with hy; subst hy
            have hdn : d < n := by rw [hd] at hdst; simpa [dstOk] using hdst
            have : (a.put o.dst v).tmps.getD d undef = v := by simp [hd, Act.put, Array.getD_eq_getD_getElem?, hsz, hdn]
            rw [this]; exact hv
          · have hlj : listed.getD j false = true := by rw [hL' j, if_neg hji] at hl; exact hl
            have hne : o.dst ≠ some d := (pure_at hpure hin1 hj hoi hq hd).1 (Ne.symm hji)
            have : (a.put o.dst v).tmps.getD d undef = a.tmps.getD d undef := by
              cases hod : o.dst with
              | none => rfl
              | some d' =>
                have : d' ≠ d := fun e => hne (by rw [hod, e])
                simp [Act.put, Array.getD_eq_getD_getElem?, this]
            rw [this]; exact (hc1 j q y d hj hq hy hlj hd).mono hle
        · have hne : o.dst ≠ some d := hd i o hin1 hoi (by rw [hL' i, if_pos rfl])
          have : (a.put o.dst v).tmps.getD d undef = a.tmps.getD d undef := by
            cases hod : o.dst with
            | none => rfl
            | some d' =>
              have : d' ≠ d := fun e => hne (by rw [hod, e])
              simp [Act.put, Array.getD_eq_getD_getElem?, this]
          rw [this]
          exact (hc2 d (fun j q hj hq hl => hd j q hj hq (by rw [hL' j]; split <;> first | rfl | exact hl))).mono hle
      have hsame : x.new = none → (objsAt s0.l (newsOf 0 rs) fun i => listed.getD i false) = objsAt s0.l (newsOf 0 rs) fun k => (listed.setIfInBounds i true).getD k false := by
        intro hnn
        refine objsAt_same fun p hp => ?_
        rw [hL' p.1, if_neg]
        intro he
        obtain ⟨i', x', e1, e2, e3⟩ := newsOf_mem rs 0 p hp
        have : i' = i := by omega
        subst this
        rw [hx] at e2; injection e2 with e2; subst e2
        rw [hnn] at e3; cases e3
      by_cases hp : holds x.pc
      · rw [if_pos (hwant.2 hp)]
        refine .inl ?_
        obtain ⟨hob1, hob2⟩ := hob hp
        have hres := hres hp
        have hops : ∀ y ∈ o.op.operands, RdT I m (objsAt s0.l (newsOf 0 rs) fun i => listed.getD i false) (a.eval y) (strip x.pc (evT x.tm y)).1 := fun y hy =>
          strip_ok (hev y hy) hp (obAll_mem hob2 _ (List.mem_map.2 ⟨y, by simpa using hy, rfl⟩))
        have hsnd := evalOp_sound (nid := x.nid) hV hw (objsAt_com (l0 := s0.l)) hops (by rw [hres]; exact hob1)
        rw [hres] at hsnd
        unfold RSound at hsnd
        cases hnn : x.new with
        | none =>
          simp only [hnn] at hsnd
          refine StepOk.wp (hsnd.mono fun v w' ⟨J, hle, hw', hv⟩ => ?_)
          rw [hsame hnn] at hle hw' hv
          refine next J m v w' (by rw [hsame hnn]; exact hle) hw' ?_
          unfold Rec.out
          split
          · exact hv
          · exact .cond _ _ _ (fun _ => hv) (fun hn => absurd hp hn)
        | some b =>
          simp only [hnn] at hsnd
          have hpc : x.pc = [] := hnew (by rw [hnn]; rfl)
          have hpos := (newsOf_spec rs 0).2.1 i x b hx hnn
          simp only [Nat.zero_add] at hpos
          have hdead : (objsAt s0.l (newsOf 0 rs) fun i => listed.getD i false)[x.nid]? = some .dead := by
            rw [hnid, Nat.add_zero]
            have := objsAt_get (l0 := s0.l) (L := fun i => listed.getD i false) hpos
            simp only [h1] at this
            simpa using this
          have hset : (objsAt s0.l (newsOf 0 rs) fun i => listed.getD i false).set x.nid b = objsAt s0.l (newsOf 0 rs) fun k => (listed.setIfInBounds i true).getD k false := by
            rw [hnid, Nat.add_zero]
            exact objsAt_set hpos (fun q y hq hy => (newsOf_spec rs 0).2.2 q _ y _ hq hpos hy) hL'
          refine StepOk.wp ((hsnd hdead).mono fun v w' ⟨m', hle, hw', hv⟩ => ?_)
          rw [hset] at hle hw' hv
          refine next I m' v w' hle hw' ?_
          unfold Rec.out
          rw [if_pos hpc]; exact hv
      · rw [if_neg (fun hh => hp (hwant.1 hh))]
        have hpc : x.pc ≠ [] := by intro e; rw [e] at hp; exact hp trivial
        have hnn : x.new = none := by
          cases hn' : x.new with
          | none => rfl
          | some b => exact absurd (hnew (by rw [hn']; rfl)) hpc
        have hw' := hw
        rw [hsame hnn] at hw'
        refine next I m undef w (by rw [hsame hnn]; exact .refl ..) hw' ?_
        unfold Rec.out
        rw [if_neg hpc]
        exact .cond _ _ _ (fun h => absurd h hp) (fun _ => rfl)

/-- A region that draws its order. -/
theorem draw3_wp (hV : VOk P V) (hK : ∀ s a w, K s → Rel w0 I0 n s a w → Q .normal a w) {s : St} {a : Act} {w : World} {n1 : Nat} {F : List Nat} (hlex : lexOk ops = true) (htail : tailOk2 ops n1 F = true) (hfl : floatOk0 ops n1 F = true) (hpure : pureOk ops n1 = true) (hn1 : n1 ≤ ops.length)
    (hrel : Rel w0 I0 n s a w) {rs : List Rec} {B : Bool} (hinF : ∀ (f : Nat) o x, f ∈ F → ops[f]? = some o → rs[f]? = some x → Indep V B s.l o x) (hkp : B = true ∨ ∀ (i : Nat) o, n1 ≤ i → ops[i]? = some o → keepsV o = true) (hrs : RecsOk V n ops s.l (ops.take n1) 0 s.t ([] : List (Nat × AO)).length rs) (hend : evalSeq V n ops md (ops.drop n1) ⟨tmOf s.t (ops.take n1) rs, s.l ++ (([] : List (Nat × AO)) ++ newsOf 0 rs).map (·.2)⟩ K) : wpAny P .any ops.toArray Q ops.length (Array.replicate ops.length false) a { w with drawn := w.drawn + 1 } := by
  obtain ⟨hsz, hdf, I, m, hw, ht⟩ := hrel
  have hl0 : ∀ i, (Array.replicate ops.length false).getD i false = false := fun i => by
    rw [Array.getD_eq_getD_getElem?]
    cases hx : (Array.replicate ops.length false)[i]? with
    | none => rfl
    | some b => have := Array.getElem?_eq_some_iff.1 hx; simp at this; simp [← this.2]
  have hw1 : WRel w0 I0 { w with drawn := w.drawn + 1 } I m s.l := (hw.call (w' := { w with drawn := w.drawn + 1 }) ⟨rfl, rfl, rfl, Nat.le_refl _, fun _ _ => rfl, fun _ => Nat.le_succ _⟩ (ExtI.refl _ _) ⟨hw.sat.cell, hw.sat.mp⟩).1
  obtain ⟨hw2, hle⟩ : WRel w0 I0 { w with drawn := w.drawn + 1 } I m (objsAt s.l (newsOf 0 rs) fun i => (Array.replicate ops.length false).getD i false) ∧ Le I m s.l I m (objsAt s.l (newsOf 0 rs) fun i => (Array.replicate ops.length false).getD i false) := by
    have : (objsAt s.l (newsOf 0 rs) fun i => (Array.replicate ops.length false).getD i false) = s.l ++ List.replicate (newsOf 0 rs).length .dead := by
      unfold objsAt
      congr 1
      rw [List.eq_replicate_iff]
      refine ⟨by simp, fun b hb => ?_⟩
      obtain ⟨p, _, rfl⟩ := List.mem_map.1 hb
      rw [if_neg (by simp only [hl0]; simp)]
    rw [this]
    generalize (newsOf 0 rs).length = c
    induction c with
    | zero => simp; exact ⟨hw1, .refl ..⟩
    | succ c ih =>
      obtain ⟨q1, q2⟩ := ih
      obtain ⟨r1, r2⟩ := q1.push
      rw [List.replicate_succ', ← List.append_assoc]
      exact ⟨r1, q2.trans r2⟩
  have := pure2uok (Q := Q) (K := K) hV hK hlex htail hfl hpure hn1 (s0 := s) (rs := rs) hinF hkp (by simpa using hrs) (by simpa using hend) ops.length a { w with drawn := w.drawn + 1 } (Array.replicate ops.length false) (by simp)
    (by unfold unl; rw [List.filter_eq_self.2 (fun i _ => by rw [hl0]; rfl)]; simp) (fun i _ _ => hl0 i)
    (fun i o _ hl => by rw [hl0] at hl; cases hl)
    ⟨hsz, hdf, I, m, hw2, fun i o x d hi ho hx hl => (by rw [hl0] at hl; cases hl), fun d _ => (ht d).mono hle⟩
  simpa using this

theorem draw3_core (hV : VOk P V) (hm : P.follows .mixedOrders = true) (hK : ∀ s a w, K s → Rel w0 I0 n s a w → Q .normal a w) {id : Nat} {s : St} {a : Act} {w : World} {n1 : Nat} {F : List Nat} (hlex : lexOk ops = true) (htail : tailOk2 ops n1 F = true) (hfl : floatOk0 ops n1 F = true) (hpure : pureOk ops n1 = true) (hn1 : n1 ≤ ops.length)
    (hrel : Rel w0 I0 n s a w) {rs : List Rec} {B : Bool} (hinF : ∀ (f : Nat) o x, f ∈ F → ops[f]? = some o → rs[f]? = some x → Indep V B s.l o x) (hkp : B = true ∨ ∀ (i : Nat) o, n1 ≤ i → ops[i]? = some o → keepsV o = true) (hrs : RecsOk V n ops s.l (ops.take n1) 0 s.t ([] : List (Nat × AO)).length rs) (hend : evalSeq V n ops md (ops.drop n1) ⟨tmOf s.t (ops.take n1) rs, s.l ++ (([] : List (Nat × AO)) ++ newsOf 0 rs).map (·.2)⟩ K) : (Code.region id ops.toArray true).wp P Q a w := by
  refine wp_region_any hm ?_
  simpa using draw3_wp hV hK hlex htail hfl hpure hn1 hrel hinF hkp hrs hend

theorem indep_reg {l0 : List AO} {F : List Nat} {n1 : Nat} {tm : Tm} {rs : List Rec} (hn : ∀ f ∈ F, f < n1) (h : (F.all fun f => match ops[f]? with | some o => isReg o | none => true) = true) (hg : ∀ (f : Nat) o, f ∈ F → ops[f]? = some o → o.guard = none) (hrs : RecsOk V n ops l0 (ops.take n1) 0 tm 0 rs) :
    ∀ (f : Nat) o x, f ∈ F → ops[f]? = some o → rs[f]? = some x → Indep V true l0 o x := by
  intro f o x hf ho hx
  have hreg : isReg o = true := by have := List.all_eq_true.1 h f hf; rw [ho] at this; exact this
  obtain ⟨hrec, _⟩ := hrs.at_ f o x (by rw [List.getElem?_take, if_pos (hn f hf)]; exact ho) hx
  have hpc : x.pc = [] := hrec.gnone (hg f o hf ho)
  have hres := hrec.res (by rw [hpc]; trivial)
  have hnn : x.new = none := by
    cases hq : x.new with
    | none => rfl
    | some b =>
      have := evalOp_reg_eff (V := V) (ρ := fun y => (strip x.pc (evT x.tm y)).1) (l := l0) (nid := x.nid) hreg b
      rw [hres, hq] at this; exact absurd rfl this
  refine ⟨hnn, fun _ hob l' _ => ?_⟩
  rw [hnn] at hres
  exact (evalOp_reg (V := V) (ρ := fun y => (strip x.pc (evT x.tm y)).1) (l := l0) (l' := l') (nid := x.nid) (nid' := 0) hreg (by rw [hres]) (by rw [hres]; exact hob)).trans hres
theorem draw2ucore (hV : VOk P V) (hm : P.follows .mixedOrders = true) (hK : ∀ s a w, K s → Rel w0 I0 n s a w → Q .normal a w) {id : Nat} {s : St} {a : Act} {w : World} {n1 : Nat} {F : List Nat} (hlex : lexOk ops = true) (htail : tailOk2 ops n1 F = true) (hfl : floatOk ops n1 F = true) (hpure : pureOk ops n1 = true) (hn1 : n1 ≤ ops.length)
    (hrel : Rel w0 I0 n s a w) {rs : List Rec} (hrs : RecsOk V n ops s.l (ops.take n1) 0 s.t ([] : List (Nat × AO)).length rs) (hend : evalSeq V n ops md (ops.drop n1) ⟨tmOf s.t (ops.take n1) rs, s.l ++ (([] : List (Nat × AO)) ++ newsOf 0 rs).map (·.2)⟩ K) : (Code.region id ops.toArray true).wp P Q a w := by
  unfold floatOk at hfl
  rw [Bool.and_eq_true] at hfl
  exact draw3_core hV hm hK hlex htail hfl.2 hpure hn1 hrel (B := true) (indep_reg (fun f hf => (float_at hfl.2 hf).1) hfl.1 (fun f o hf ho => ((float_at hfl.2 hf).2 o ho).1) (by simpa using hrs)) (.inl rfl) hrs hend

/-- Floaters that load from variables, and lists of data: the tail leaves variables as they are. -/
def floatOk3 (ops : List Oper) (n1 : Nat) (F : List Nat) : Bool := (F.all fun f => match ops[f]? with | some o => isFl o | none => true) && floatOk0 ops n1 F && ((List.range ops.length).all fun i => decide (i < n1) || match ops[i]? with | some o => keepsV o | none => true)
/-- What floaters load from is no row; it is known when the region begins. -/
def floatPtr (t : Tm) (ops : List Oper) (n1 : Nat) (F : List Nat) : Bool := F.all fun f => match ops[f]? with
  | some o => (match o.op with
    | .load _ (.tmp p) => (match get t p with | .rptr .. => false | .cond .. => false | _ => true) && (ops.take n1).all fun q => q.dst != some p
    | .load .. => false
    | _ => true)
  | none => true
theorem indep_fl {l0 : List AO} {F : List Nat} {n1 : Nat} {tm : Tm} {rs : List Rec} (hn : ∀ f ∈ F, f < n1) (hn1 : n1 ≤ ops.length) (h : (F.all fun f => match ops[f]? with | some o => isFl o | none => true) = true) (hp : floatPtr tm ops n1 F = true) (hg : ∀ (f : Nat) o, f ∈ F → ops[f]? = some o → o.guard = none) (hrs : RecsOk V n ops l0 (ops.take n1) 0 tm 0 rs) :
    ∀ (f : Nat) o x, f ∈ F → ops[f]? = some o → rs[f]? = some x → Indep V false l0 o x := by
  intro f o x hf ho hx
  have hfl : isFl o = true := by have := List.all_eq_true.1 h f hf; rw [ho] at this; exact this
  have hpo := List.all_eq_true.1 hp f hf
  simp only [ho] at hpo
  obtain ⟨hrec, htm, _⟩ := hrs.at_ f o x (by rw [List.getElem?_take, if_pos (hn f hf)]; exact ho) hx
  have hpc : x.pc = [] := hrec.gnone (hg f o hf ho)
  have hres := hrec.res (by rw [hpc]; trivial)
  have hnn : x.new = none := by
    cases hq : x.new with
    | none => rfl
    | some b =>
      have hk : keepsV o = true := by
        unfold isFl at hfl; unfold keepsV
        rw [Bool.or_eq_true] at hfl ⊢
        refine hfl.imp id fun h => ?_
        split at h <;> simp_all
      have := (keepsV_eff (V := V) (ρ := fun y => (strip x.pc (evT x.tm y)).1) (l := l0) (nid := x.nid) hk).2 b
      rw [hres, hq] at this; exact absurd rfl this
  refine ⟨hnn, fun _ hob l' hl => ?_⟩
  rw [hnn] at hres
  refine (evalOp_fl (V := V) (ρ := fun y => (strip x.pc (evT x.tm y)).1) (l := l0) (l' := l') (nid := x.nid) (nid' := 0) hfl ?_ (hl.resolve_left (by simp)) (by rw [hres]) (by rw [hres]; exact hob)).trans hres
  unfold noRow
  split
  · rename_i t a hop
    rw [hop] at hpo
    cases a with
    | tmp p =>
      simp only [Bool.and_eq_true] at hpo
      obtain ⟨h1, h2⟩ := hpo
      have hgx : get x.tm p = get tm p := by
        rw [htm]
        refine get_tmOf_other _ _ _ p fun q hq hd => ?_
        have := List.all_eq_true.1 h2 q (List.mem_of_mem_take hq)
        rw [hd] at this; simp at this
      rw [hpc]
      show (match (strip [] (get x.tm p)).1 with | .rptr .. => false | _ => true) = true
      rw [hgx]
      cases hq : get tm p <;> rw [hq] at h1 <;> simp_all [strip]
    | _ => cases hpo
  · rfl
end
end Go.Eva
