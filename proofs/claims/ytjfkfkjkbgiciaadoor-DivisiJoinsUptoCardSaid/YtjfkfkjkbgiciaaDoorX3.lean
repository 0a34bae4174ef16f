/-
  The evaluator, the printed walks and the plain laws, part 3 of 8.
-/
import Derived.Test.YtjfkfkjkbgiciaaDoorX2
import Derived.RangeFuncRecord
import Derived.Deep.LoopGhost
import Derived.KernelRfl
set_option linter.all false
set_option linter.unnecessarySimpa false
set_option linter.deprecated false
set_option linter.unusedVariables false
set_option linter.unusedSimpArgs false
set_option linter.unusedSectionVars false
namespace Go.Eva
open Go Go.RowKit
variable [Drw]
def waits (o : Oper) : List Nat := (o.after.toList.filter (Region.binds .any)).map (·.on)
def tmpsOf (o : Oper) : List Nat := o.op.operands.toList.filterMap fun | .tmp t => some t | _ => none
def readsOf (ops : List Oper) (o : Oper) : List Nat := tmpsOf o ++ (match o.guard with | some (j, _) => ((ops[j]?).bind (·.dst)).toList | none => [])
def lexOk (ops : List Oper) : Bool := (List.range ops.length).all fun i => match ops[i]? with | some o => (waits o).all (· < i) | none => true
def tailOk (ops : List Oper) (n1 : Nat) : Bool := (List.range ops.length).all fun i => decide (i < n1) || match ops[i]? with | some o => (List.range i).all (fun j => (waits o).contains j) | none => true
def pureOk (ops : List Oper) (n1 : Nat) : Bool := (List.range n1).all fun i => match ops[i]? with
  | some o => (List.range n1).all fun j => match ops[j]? with
    | some q => (match q.dst with
      | some d => (decide (i = j) || o.dst != some d) && (!(readsOf ops o).contains d || (decide (j < i) && (waits o).contains j))
      | none => true)
    | none => true
  | none => false
def splitAt (ops : List Oper) : Nat := ((List.range (ops.length + 1)).find? (tailOk ops)).getD ops.length
def evalPure (V : Env) (n : Nat) (ops : List Oper) (md : Way) (l0 : List AO) : List Oper → (k : Nat) → Tm → List (Nat × AO) → (Tm → List (Nat × AO) → Prop) → Prop
  | [], _, tm, news, K => K tm news
  | o :: r, k, tm, news, K =>
    match guardPc ops tm o.guard with
    | none => False
    | some pc =>
      match md with
      | none =>
        let ρ := fun x => strip pc (evT tm x)
        (match evalOp V (fun x => (ρ x).1) l0 (l0.length + news.length) o with
        | ⟨t, eff, ob⟩ =>
          (holds pc → ob ∧ obAll (o.op.operands.toList.map fun x => (ρ x).2)) ∧ dstOk n o.dst = true ∧
          match pc, eff with
          | [], .none => evalPure V n ops md l0 r (k + 1) (putT tm o.dst t) news K
          | [], .new a => evalPure V n ops md l0 r (k + 1) (putT tm o.dst t) (news ++ [(k, a)]) K
          | pc, .none => evalPure V n ops md l0 r (k + 1) (putT tm o.dst (.cond pc t)) news K
          | _, _ => False)
      | some sk =>
        if skips sk o.dst = true then o.guard.isSome = true ∧ (holds pc → False) ∧ dstOk n o.dst = true ∧ evalPure V n ops md l0 r (k + 1) (putT tm o.dst gone) news K
        else holds pc ∧ (match evalOp V (fun x => (strip [] (evT tm x)).1) l0 (l0.length + news.length) o with
        | ⟨t, eff, ob⟩ =>
          (ob ∧ obAll (o.op.operands.toList.map fun x => (strip [] (evT tm x)).2)) ∧ dstOk n o.dst = true ∧
          match eff with
          | .none => evalPure V n ops md l0 r (k + 1) (putT tm o.dst t) news K
          | .new a => evalPure V n ops md l0 r (k + 1) (putT tm o.dst t) (news ++ [(k, a)]) K
          | _ => False)
def evalDraw (V : Env) (n : Nat) (ops : List Oper) (s : St) (K : St → Prop) : Prop :=
  lexOk ops = true ∧ tailOk ops (splitAt ops) = true ∧ pureOk ops (splitAt ops) = true ∧ splitAt ops ≤ ops.length ∧
  evalPure V n ops none s.l (ops.take (splitAt ops)) 0 s.t [] fun tm news => evalSeq V n ops none (ops.drop (splitAt ops)) ⟨tm, s.l ++ news.map (·.2)⟩ K
structure Rec where
  tm : Tm
  pc : PC
  t : T
  ob : Prop
  new : Option AO
  nid : Nat
def Rec.out (r : Rec) : T := if r.pc = [] then r.t else .cond r.pc r.t
structure RecOk (V : Env) (n : Nat) (ops : List Oper) (l0 : List AO) (o : Oper) (r : Rec) : Prop where
  guard : ∃ qc, guardPc ops r.tm o.guard = some qc ∧ (holds qc ↔ holds r.pc)
  gnone : o.guard = none → r.pc = []
  res : holds r.pc → evalOp V (fun x => (strip r.pc (evT r.tm x)).1) l0 r.nid o = ⟨r.t, (match r.new with | some a => .new a | none => .none), r.ob⟩
  ob : holds r.pc → r.ob ∧ obAll (o.op.operands.toList.map fun x => (strip r.pc (evT r.tm x)).2)
  dst : dstOk n o.dst = true
  new : r.new.isSome = true → r.pc = []
  gone : ¬ holds r.pc → r.new = none
def newsOf : Nat → List Rec → List (Nat × AO)
  | _, [] => []
  | k, r :: rs => (match r.new with | some a => [(k, a)] | none => []) ++ newsOf (k + 1) rs
def tmOf : Tm → List Oper → List Rec → Tm
  | tm, o :: os, r :: rs => tmOf (putT tm o.dst r.out) os rs
  | tm, _, _ => tm
def RecsOk (V : Env) (n : Nat) (ops : List Oper) (l0 : List AO) : List Oper → Nat → Tm → Nat → List Rec → Prop
  | [], _, _, _, rs => rs = []
  | o :: os, k, tm, c, rs => ∃ r rs', rs = r :: rs' ∧ r.tm = tm ∧ r.nid = l0.length + c ∧ RecOk V n ops l0 o r ∧ RecsOk V n ops l0 os (k + 1) (putT tm o.dst r.out) (c + (if r.new.isSome then 1 else 0)) rs'
theorem evalPure_recs {V : Env} {n : Nat} {ops : List Oper} {md : Way} {l0 : List AO} {K : Tm → List (Nat × AO) → Prop} : ∀ (r : List Oper) (k : Nat) (tm : Tm) (news : List (Nat × AO)), evalPure V n ops md l0 r k tm news K →
    ∃ rs, RecsOk V n ops l0 r k tm news.length rs ∧ K (tmOf tm r rs) (news ++ newsOf k rs)
  | [], k, tm, news, h => ⟨[], rfl, by simpa [tmOf, newsOf, evalPure] using h⟩
  | o :: r, k, tm, news, h => by
    simp only [evalPure] at h
    split at h
    · exact h.elim
    · rename_i pc hg
      have hgn : o.guard = none → pc = [] := fun e => by rw [e] at hg; simpa [guardPc] using hg.symm
      cases md with
      | none =>
        simp only at h
        generalize hres : evalOp V (fun x => (strip pc (evT tm x)).1) l0 (l0.length + news.length) o = res at h
        obtain ⟨t, eff, ob⟩ := res
        simp only at h
        obtain ⟨hob, hdst, h⟩ := h
        split at h
        · obtain ⟨rs, h1, h2⟩ := evalPure_recs r (k + 1) _ _ h
          refine ⟨⟨tm, [], t, ob, none, l0.length + news.length⟩ :: rs, ⟨_, rs, rfl, rfl, rfl, ⟨⟨_, hg, Iff.rfl⟩, fun _ => rfl, fun _ => hres, hob, hdst, by simp, fun _ => rfl⟩, by simpa [Rec.out] using h1⟩, ?_⟩
          simpa [tmOf, newsOf, Rec.out] using h2
        · rename_i a
          obtain ⟨rs, h1, h2⟩ := evalPure_recs r (k + 1) _ _ h
          refine ⟨⟨tm, [], t, ob, some a, l0.length + news.length⟩ :: rs, ⟨_, rs, rfl, rfl, rfl, ⟨⟨_, hg, Iff.rfl⟩, fun _ => rfl, fun _ => hres, hob, hdst, by simp, fun h => (h trivial).elim⟩, by simpa [Rec.out] using h1⟩, ?_⟩
          simpa [tmOf, newsOf, Rec.out] using h2
        · rename_i hne
          obtain ⟨rs, h1, h2⟩ := evalPure_recs r (k + 1) _ _ h
          have hpc : pc ≠ [] := fun e => hne e
          refine ⟨⟨tm, pc, t, ob, none, l0.length + news.length⟩ :: rs, ⟨_, rs, rfl, rfl, rfl, ⟨⟨_, hg, Iff.rfl⟩, hgn, fun _ => hres, hob, hdst, by simp, fun _ => rfl⟩, by simpa [Rec.out, hpc] using h1⟩, ?_⟩
          simpa [tmOf, newsOf, Rec.out, hpc] using h2
        · exact h.elim
      | some sk =>
        simp only at h
        split at h
        · obtain ⟨hgs, hno, hdst, h⟩ := h
          obtain ⟨rs, h1, h2⟩ := evalPure_recs r (k + 1) _ _ h
          have hfalse : ¬ holds [((0 : Nat), true, false)] := by simp [holds]
          refine ⟨⟨tm, [(0, true, false)], .undef, True, none, l0.length + news.length⟩ :: rs, ⟨_, rs, rfl, rfl, rfl, ⟨⟨_, hg, ⟨fun h => (hno h).elim, fun h => (hfalse h).elim⟩⟩, fun e => (by rw [e] at hgs; cases hgs), fun h => (hfalse h).elim, fun h => (hfalse h).elim, hdst, by simp, fun _ => rfl⟩, by simpa [Rec.out, gone] using h1⟩, ?_⟩
          simpa [tmOf, newsOf, Rec.out, gone] using h2
        · obtain ⟨hyes, h⟩ := h
          generalize hres : evalOp V (fun x => (strip [] (evT tm x)).1) l0 (l0.length + news.length) o = res at h
          obtain ⟨t, eff, ob⟩ := res
          simp only at h
          obtain ⟨hob, hdst, h⟩ := h
          split at h
          · obtain ⟨rs, h1, h2⟩ := evalPure_recs r (k + 1) _ _ h
            refine ⟨⟨tm, [], t, ob, none, l0.length + news.length⟩ :: rs, ⟨_, rs, rfl, rfl, rfl, ⟨⟨_, hg, ⟨fun _ => trivial, fun _ => hyes⟩⟩, fun _ => rfl, fun _ => hres, fun _ => hob, hdst, by simp, fun _ => rfl⟩, by simpa [Rec.out] using h1⟩, ?_⟩
            simpa [tmOf, newsOf, Rec.out] using h2
          · rename_i a
            obtain ⟨rs, h1, h2⟩ := evalPure_recs r (k + 1) _ _ h
            refine ⟨⟨tm, [], t, ob, some a, l0.length + news.length⟩ :: rs, ⟨_, rs, rfl, rfl, rfl, ⟨⟨_, hg, ⟨fun _ => trivial, fun _ => hyes⟩⟩, fun _ => rfl, fun _ => hres, fun _ => hob, hdst, by simp, fun h => (h trivial).elim⟩, by simpa [Rec.out] using h1⟩, ?_⟩
            simpa [tmOf, newsOf, Rec.out] using h2
          · exact h.elim
theorem RecsOk.len {V : Env} {n : Nat} {ops : List Oper} {l0 : List AO} : ∀ {r : List Oper} {k : Nat} {tm : Tm} {c : Nat} {rs : List Rec}, RecsOk V n ops l0 r k tm c rs → rs.length = r.length
  | [], _, _, _, rs, h => by simp only [RecsOk] at h; subst h; rfl
  | o :: r, k, tm, c, rs, h => by
    obtain ⟨x, rs', rfl, _, _, _, h'⟩ := h
    simp [h'.len]
def slotAt (tm : Tm) (r : List Oper) (rs : List Rec) (i : Nat) (t : Nat) : T := get (tmOf tm (r.take i) (rs.take i)) t
theorem RecsOk.at_ {V : Env} {n : Nat} {ops : List Oper} {l0 : List AO} : ∀ {r : List Oper} {k : Nat} {tm : Tm} {c : Nat} {rs : List Rec}, RecsOk V n ops l0 r k tm c rs → ∀ (i : Nat) o x, r[i]? = some o → rs[i]? = some x →
    RecOk V n ops l0 o x ∧ x.tm = tmOf tm (r.take i) (rs.take i) ∧ x.nid = l0.length + c + (newsOf k (rs.take i)).length
  | [], _, _, _, rs, h, i, o, x, ho, hx => by simp at ho
  | q :: r, k, tm, c, rs, h, i, o, x, ho, hx => by
    obtain ⟨y, rs', rfl, h1, h2, h3, h4⟩ := h
    rcases i with _ | i
    · simp at ho hx; subst ho; subst hx
      exact ⟨h3, by simp [tmOf]; exact h1, by simp [newsOf]; omega⟩
    · simp at ho hx
      obtain ⟨g1, g2, g3⟩ := h4.at_ i o x ho hx
      refine ⟨g1, by simpa [tmOf] using g2, ?_⟩
      rw [g3]
      cases hn : y.new <;> simp [newsOf, hn] <;> omega
theorem get_tmOf_other : ∀ (r : List Oper) (rs : List Rec) (tm : Tm) (t : Nat), (∀ o ∈ r, o.dst ≠ some t) → get (tmOf tm r rs) t = get tm t
  | [], rs, tm, t, _ => by cases rs <;> rfl
  | o :: r, [], tm, t, _ => rfl
  | o :: r, x :: rs, tm, t, h => by
    simp only [tmOf]
    rw [get_tmOf_other r rs _ t (fun q hq => h q (by simp [hq]))]
    have := h o (by simp)
    cases hd : o.dst with
    | none => rfl
    | some d => simp only [putT, get_put]; rw [if_neg (fun e => this (by rw [hd, e]))]
theorem get_tmOf_at : ∀ (r : List Oper) (rs : List Rec) (tm : Tm) (t i : Nat) (o : Oper) (x : Rec), r[i]? = some o → rs[i]? = some x → o.dst = some t → (∀ j q, r[j]? = some q → j ≠ i → q.dst ≠ some t) → get (tmOf tm r rs) t = x.out
  | [], rs, tm, t, i, o, x, ho, _, _, _ => by simp at ho
  | q :: r, [], tm, t, i, o, x, _, hx, _, _ => by simp at hx
  | q :: r, y :: rs, tm, t, i, o, x, ho, hx, hd, hu => by
    simp only [tmOf]
    rcases i with _ | i
    · simp at ho hx; subst ho; subst hx
      rw [get_tmOf_other r rs _ t (fun q' hq' => by
        obtain ⟨j, hj, rfl⟩ := List.mem_iff_getElem.1 hq'
        exact hu (j + 1) _ (by simpa using List.getElem?_eq_getElem hj) (by omega))]
      rw [hd]; simp [putT, get_put]
    · simp at ho hx
      exact get_tmOf_at r rs _ t i o x ho hx hd (fun j q' hq' hj => hu (j + 1) q' (by simpa using hq') (by omega))
theorem newsOf_spec : ∀ (rs : List Rec) (k : Nat), (∀ p ∈ newsOf k rs, k ≤ p.1 ∧ p.1 < k + rs.length) ∧ (∀ (i : Nat) x a, rs[i]? = some x → x.new = some a → (newsOf k rs)[(newsOf k (rs.take i)).length]? = some (k + i, a)) ∧
    (∀ (p q : Nat) x y, (newsOf k rs)[p]? = some x → (newsOf k rs)[q]? = some y → x.1 = y.1 → p = q)
  | [], k => by simp [newsOf]
  | r :: rs, k => by
    obtain ⟨h1, h2, h3⟩ := newsOf_spec rs (k + 1)
    cases hn : r.new with
    | none =>
      simp only [newsOf, hn, List.nil_append]
      refine ⟨fun p hp => by have := h1 p hp; simp; omega, fun i x a hx ha => ?_, h3⟩
      rcases i with _ | i
      · simp at hx; subst hx; rw [hn] at ha; cases ha
      · simp at hx
        have := h2 i x a hx ha
        simp only [List.take_succ_cons, newsOf, hn, List.nil_append]
        rw [this]; congr 2; omega
    | some b =>
      simp only [newsOf, hn, List.cons_append, List.nil_append]
      refine ⟨fun p hp => ?_, fun i x a hx ha => ?_, fun p q x y hx hy he => ?_⟩
      · rcases List.mem_cons.1 hp with rfl | hp
        · simp
        · have := h1 p hp; simp; omega
      · rcases i with _ | i
        · simp at hx; subst hx; rw [hn] at ha; injection ha with ha; subst ha; simp [newsOf]
        · simp at hx
          have := h2 i x a hx ha
          simp only [List.take_succ_cons, newsOf, hn, List.cons_append, List.nil_append, List.length_cons, List.getElem?_cons_succ]
          rw [this]; congr 2; omega
      · rcases p with _ | p <;> rcases q with _ | q
        · rfl
        · simp at hx hy; subst hx
          have := (h1 y (List.mem_of_getElem? hy)).1; simp at he; omega
        · simp at hx hy; subst hy
          have := (h1 x (List.mem_of_getElem? hx)).1; simp at he; omega
        · simp at hx hy
          rw [h3 p q x y hx hy he]
theorem newsOf_mem : ∀ (rs : List Rec) (k : Nat) p, p ∈ newsOf k rs → ∃ i x, p.1 = k + i ∧ rs[i]? = some x ∧ x.new = some p.2
  | [], k, p, h => by simp [newsOf] at h
  | r :: rs, k, p, h => by
    simp only [newsOf, List.mem_append] at h
    rcases h with h | h
    · cases hn : r.new with
      | none => simp [hn] at h
      | some a => simp [hn] at h; subst h; exact ⟨0, r, rfl, rfl, hn⟩
    · obtain ⟨i, x, h1, h2, h3⟩ := newsOf_mem rs (k + 1) p h
      exact ⟨i + 1, x, by omega, by simpa using h2, h3⟩
def objsAt (l0 : List AO) (news : List (Nat × AO)) (L : Nat → Bool) : List AO := l0 ++ news.map fun p => if L p.1 = true then p.2 else .dead
theorem objsAt_get {l0 : List AO} {news : List (Nat × AO)} {L : Nat → Bool} {p : Nat} {k : Nat} {a : AO} (h : news[p]? = some (k, a)) : (objsAt l0 news L)[l0.length + p]? = some (if L k = true then a else .dead) := by
  unfold objsAt
  rw [List.getElem?_append_right (by omega), Nat.add_sub_cancel_left, List.getElem?_map, h]; rfl
theorem objsAt_com {l0 : List AO} {news : List (Nat × AO)} {L : Nat → Bool} : Com l0 (objsAt l0 news L) := fun _ hid => List.getElem?_append_left hid
theorem objsAt_set {l0 : List AO} {news : List (Nat × AO)} {L L' : Nat → Bool} {p k : Nat} {a : AO} (h : news[p]? = some (k, a)) (hu : ∀ q x, news[q]? = some x → x.1 = k → q = p) (hL : ∀ j, L' j = if j = k then true else L j) :
    (objsAt l0 news L).set (l0.length + p) a = objsAt l0 news L' := by
  apply List.ext_getElem?
  intro i
  rw [List.getElem?_set]
  by_cases hi : l0.length + p = i
  · subst hi
    rw [if_pos rfl, if_pos (by unfold objsAt; have := (List.getElem?_eq_some_iff.1 h).1; simp; omega), objsAt_get h, hL k]; simp
  · rw [if_neg hi]
    unfold objsAt
    by_cases h0 : i < l0.length
    · rw [List.getElem?_append_left h0, List.getElem?_append_left h0]
    · rw [List.getElem?_append_right (by omega), List.getElem?_append_right (by omega), List.getElem?_map, List.getElem?_map]
      cases hx : news[i - l0.length]? with
      | none => rfl
      | some x =>
        have : x.1 ≠ k := fun e => hi (by have := hu _ x hx e; omega)
        simp [hL, this]
theorem objsAt_same {l0 : List AO} {news : List (Nat × AO)} {L L' : Nat → Bool} (h : ∀ x ∈ news, L x.1 = L' x.1) : objsAt l0 news L = objsAt l0 news L' := by
  unfold objsAt
  congr 1
  apply List.map_congr_left
  intro x hx
  rw [h x hx]
end Go.Eva
namespace Go.Eva
open Go Go.RowKit
variable [Drw] [Rnd]
theorem filter_drop_one {α : Type} [DecidableEq α] : ∀ (l : List α) (f : α → Bool) (i : α), l.Nodup → i ∈ l → f i = true → (l.filter fun k => f k && decide (k ≠ i)).length + 1 = (l.filter f).length
  | [], f, i, _, hi, _ => by cases hi
  | x :: l, f, i, hn, hi, hf => by
    have hx : x ∉ l := (List.nodup_cons.1 hn).1
    by_cases h : x = i
    · subst h
      have : l.filter (fun k => f k && decide (k ≠ x)) = l.filter f := by
        apply List.filter_congr
        intro k hk
        have : k ≠ x := fun e => hx (e ▸ hk)
        simp [this]
      have := congrArg List.length this
      simp at this
      simp [hf, this]
    · have hi' : i ∈ l := by
        rcases List.mem_cons.1 hi with e | e
        · exact absurd e.symm h
        · exact e
      have ih := filter_drop_one l f i (List.nodup_cons.1 hn).2 hi' hf
      cases hfx : f x <;> simp [hfx, h] <;> simp at ih <;> omega
def unl (N : Nat) (listed : Array Bool) : Nat := ((List.range N).filter fun i => !listed.getD i false).length
theorem unl_set {N i : Nat} {listed : Array Bool} (hs : listed.size = N) (hi : i < N) (hu : listed.getD i false = false) : unl N (listed.setIfInBounds i true) + 1 = unl N listed := by
  unfold unl
  rw [← filter_drop_one (List.range N) (fun i => !listed.getD i false) i List.nodup_range (List.mem_range.2 hi) (by simp only [hu]; rfl)]
  congr 2
  apply List.filter_congr
  intro k hk
  have hk := List.mem_range.1 hk
  simp only [Array.getD_eq_getD_getElem?, Array.getElem?_setIfInBounds]
  by_cases h : i = k
  · subst h; simp [hs, hi]
  · simp [h, Ne.symm h]
theorem getD_set {N i k : Nat} {listed : Array Bool} (hs : listed.size = N) (hi : i < N) : (listed.setIfInBounds i true).getD k false = if k = i then true else listed.getD k false := by
  simp only [Array.getD_eq_getD_getElem?, Array.getElem?_setIfInBounds]
  by_cases h : i = k
  · subst h; simp [hs, hi]
  · simp [h, Ne.symm h]
theorem getD_tf {N i : Nat} {listed : Array Bool} (hs : listed.size = N) (hi : i < N) : listed.getD i true = listed.getD i false := by
  simp [Array.getD_eq_getD_getElem?, Array.getElem?_eq_getElem (show i < listed.size by omega)]
section
variable {P : Program} {V : Env} {w0 : World} {I0 : Imm} {n : Nat} {md : Way} {ops : List Oper} {Q : Exit → Act → World → Prop} {K : St → Prop}
theorem lex_at (h : lexOk ops = true) {i : Nat} {o : Oper} (ho : ops[i]? = some o) : ∀ j ∈ waits o, j < i := by
  have := List.all_eq_true.1 h i (List.mem_range.2 (List.getElem?_eq_some_iff.1 ho).1)
  simp only [ho, List.all_eq_true, decide_eq_true_eq] at this
  exact this
theorem tail_at {n1 : Nat} (h : tailOk ops n1 = true) {i : Nat} {o : Oper} (ho : ops[i]? = some o) (hi : n1 ≤ i) : ∀ j, j < i → j ∈ waits o := by
  intro j hj
  have := List.all_eq_true.1 h i (List.mem_range.2 (List.getElem?_eq_some_iff.1 ho).1)
  simp only [ho, Bool.or_eq_true, decide_eq_true_eq, List.all_eq_true, List.mem_range, List.contains_iff_mem] at this
  rcases this with h | h
  · omega
  · exact h j hj
theorem pure_at {n1 : Nat} (h : pureOk ops n1 = true) {i j : Nat} {o q : Oper} (hi : i < n1) (hj : j < n1) (ho : ops[i]? = some o) (hq : ops[j]? = some q) {d : Nat} (hd : q.dst = some d) :
    (i ≠ j → o.dst ≠ some d) ∧ (d ∈ readsOf ops o → j < i ∧ j ∈ waits o) := by
  have := List.all_eq_true.1 h i (List.mem_range.2 hi)
  simp only [ho] at this
  have := List.all_eq_true.1 this j (List.mem_range.2 hj)
  simp only [hq, hd, Bool.and_eq_true, Bool.or_eq_true, decide_eq_true_eq, Bool.not_eq_true', bne_iff_ne, ne_eq, List.contains_iff_mem] at this
  obtain ⟨h1, h2⟩ := this
  refine ⟨fun hne => h1.resolve_left hne, fun hr => ?_⟩
  rcases h2 with h2 | h2
  · have := List.contains_iff_mem.2 hr
    rw [h2] at this; cases this
  · exact h2
theorem ready_iff {listed : Array Bool} {i : Nat} (hs : listed.size = ops.length) (hi : i < ops.length) {o : Oper} (ho : ops[i]? = some o) : i ∈ Region.ready .any ops.toArray listed ↔ listed.getD i false = false ∧ ∀ j ∈ waits o, listed.getD j false = true := by
  rw [mem_ready]
  rw [getD_tf hs hi]
  refine and_congr_right fun _ => ⟨?_, fun h => ⟨o, by simpa using ho, fun e he hb => h e.on ?_⟩⟩
  · rintro ⟨o', ho', h⟩ j hj
    have : o' = o := by simp [ho] at ho'; exact ho'.symm
    subst this
    obtain ⟨e, he, rfl⟩ := List.mem_map.1 hj
    have he := List.mem_filter.1 he
    exact h e (by simpa using he.1) he.2
  · exact List.mem_map.2 ⟨e, List.mem_filter.2 ⟨by simpa using he, hb⟩, rfl⟩
theorem ready_lt {listed : Array Bool} {i : Nat} (h : i ∈ Region.ready .any ops.toArray listed) : i < ops.length := by
  obtain ⟨_, o, ho, _⟩ := mem_ready.1 h
  have := (Array.getElem?_eq_some_iff.1 ho).1
  simpa using this
theorem tail_ok (hV : VOk P V) (hK : ∀ s a w, K s → Rel w0 I0 n s a w → Q .normal a w) {n1 : Nat} (hlex : lexOk ops = true) (htail : tailOk ops n1 = true) :
    ∀ (fuel j : Nat) (s : St) (a : Act) (w : World) (listed : Array Bool), listed.size = ops.length → (∀ i, i < ops.length → listed.getD i false = decide (i < j)) → n1 ≤ j → j + fuel = ops.length → Rel w0 I0 n s a w → evalSeq V n ops md (ops.drop j) s K →
      wpAnyIn RnF 0 P .any ops.toArray Q fuel listed a w
  | 0, j, s, a, w, listed, hs, hl, hj, hf, hrel, h => by
    have : ops.drop j = [] := List.drop_eq_nil_of_le (by omega)
    rw [this] at h
    refine ⟨?_, hK s a w h hrel⟩
    refine List.eq_nil_iff_forall_not_mem.2 fun i hi => ?_
    have hlt := ready_lt hi
    have := (ready_iff hs hlt (List.getElem?_eq_getElem hlt)).1 hi
    rw [hl i hlt] at this
    simp at this; omega
  | fuel + 1, j, s, a, w, listed, hs, hl, hj, hf, hrel, h => by
    have hjl : j < ops.length := by omega
    have hoj : ops[j]? = some ops[j] := List.getElem?_eq_getElem hjl
    have hready : j ∈ Region.ready .any ops.toArray listed := (ready_iff hs hjl hoj).2 ⟨by rw [hl j hjl]; simp, fun i hi => by have := lex_at hlex hoj i hi; rw [hl i (by omega)]; simpa using this⟩
    refine ⟨fun h0 => (by rw [h0] at hready; cases hready), fun i hi => ?_⟩
    have hlt := ready_lt hi
    have hoi : ops[i]? = some ops[i] := List.getElem?_eq_getElem hlt
    obtain ⟨h1, h2⟩ := (ready_iff hs hlt hoi).1 hi
    have hij : i = j := by
      rw [hl i hlt] at h1
      have h1 : ¬ i < j := by simpa using h1
      rcases Nat.lt_or_ge j i with hlt' | hge
      · have := h2 j (tail_at htail hoi (by omega) j hlt')
        rw [hl j hjl] at this; simp at this
      · omega
    subst hij
    unfold wpOpIn
    have : ops.toArray[i]? = some ops[i] := by simp [hoi]
    rw [this]
    rw [List.drop_eq_getElem_cons hjl] at h
    refine evalSeq_step hV hrel h fun s' a' w' h' hr' => ?_
    exact tail_ok hV hK hlex htail fuel (i + 1) s' a' w' _ (by simp [hs]) (fun k hk => by rw [getD_set hs hjl, hl k hk]; by_cases e : k = i <;> simp [e]; omega) (by omega) (by omega) hr' h'
structure Inv (w0 : World) (I0 : Imm) (n n1 : Nat) (ops : List Oper) (s0 : St) (rs : List Rec) (listed : Array Bool) (a : Act) (w : World) : Prop where
  size : a.tmps.size = n
  rel : ∃ I m, WRel w0 I0 w I m (objsAt s0.l (newsOf 0 rs) fun i => listed.getD i false) ∧ Dfs w0.heap.size I a.defers ∧
    (∀ (i : Nat) o x d, i < n1 → ops[i]? = some o → rs[i]? = some x → listed.getD i false = true → o.dst = some d → RdT I m (objsAt s0.l (newsOf 0 rs) fun i => listed.getD i false) (a.tmps.getD d undef) x.out) ∧
    (∀ d, (∀ (i : Nat) o, i < n1 → ops[i]? = some o → listed.getD i false = true → o.dst ≠ some d) → RdT I m (objsAt s0.l (newsOf 0 rs) fun i => listed.getD i false) (a.tmps.getD d undef) (get s0.t d))
theorem unl_tail (listed : Array Bool) (n1 : Nat) : ∀ N, n1 ≤ N → (∀ i, i < N → listed.getD i false = decide (i < n1)) → unl N listed = N - n1 := by
  intro N
  induction N with
  | zero => intro _ _; simp [unl]
  | succ N ih =>
    intro hN h
    unfold unl
    rw [List.range_succ, List.filter_append, List.length_append]
    rcases Nat.lt_or_ge N n1 with hlt | hge
    · have hn : n1 = N + 1 := by omega
      subst hn
      have h1 : (List.range N).filter (fun i => !listed.getD i false) = [] := List.filter_eq_nil_iff.2 fun i hi => by
        have hi := List.mem_range.1 hi
        rw [h i (by omega)]; simp; omega
      have h2 : listed.getD N false = true := by rw [h N (by omega)]; simp
      rw [h1]; simp only [List.filter_cons, h2]; simp
    · have := ih hge (fun i hi => h i (by omega))
      unfold unl at this
      have h2 : listed.getD N false = false := by rw [h N (by omega)]; simpa using hge
      rw [this]; simp only [List.filter_cons, h2]; simp; omega
theorem rel_of_inv {n1 : Nat} (hpure : pureOk ops n1 = true) (hn1 : n1 ≤ ops.length) {s0 : St} {rs : List Rec} (hrl : rs.length = n1) {listed : Array Bool} {a : Act} {w : World} (hinv : Inv w0 I0 n n1 ops s0 rs listed a w) (hall : ∀ i, i < n1 → listed.getD i false = true) :
    Rel w0 I0 n ⟨tmOf s0.t (ops.take n1) rs, s0.l ++ (newsOf 0 rs).map (·.2)⟩ a w := by
  obtain ⟨h1, I, m, h3, h2, h4, h5⟩ := hinv
  have hL : objsAt s0.l (newsOf 0 rs) (fun i => listed.getD i false) = s0.l ++ (newsOf 0 rs).map (·.2) := by
    unfold objsAt
    congr 1
    apply List.map_congr_left
    intro p hp
    have := (newsOf_spec rs 0).1 p hp
    rw [if_pos (hall p.1 (by omega))]
  rw [hL] at h3 h4 h5
  refine ⟨h1, I, m, h3, h2, fun k => ?_⟩
  by_cases hk : ∃ i o, i < n1 ∧ ops[i]? = some o ∧ o.dst = some k
  · obtain ⟨i, o, hi, ho, hd⟩ := hk
    have hx : rs[i]? = some rs[i] := List.getElem?_eq_getElem (by omega)
    rw [get_tmOf_at (ops.take n1) rs s0.t k i o _ (by rw [List.getElem?_take, if_pos hi]; exact ho) hx hd (fun j q hq hj => by
      have hjn : j < n1 := by have := (List.getElem?_eq_some_iff.1 hq).1; simp at this; omega
      rw [List.getElem?_take, if_pos hjn] at hq
      exact (pure_at hpure hjn hi hq ho hd).1 hj)]
    exact h4 i o _ k hi ho hx (hall i hi) hd
  · rw [get_tmOf_other (ops.take n1) rs s0.t k (fun o ho hd => hk (by
      obtain ⟨i, hi, rfl⟩ := List.mem_iff_getElem.1 ho
      have hi' : i < n1 := by simp at hi; omega
      exact ⟨i, _, hi', by rw [List.getElem?_eq_getElem (by omega)], by simpa using hd⟩))]
    exact h5 k (fun i o hi ho _ hd => hk ⟨i, o, hi, ho, hd⟩)
theorem pure_ok (hV : VOk P V) (hK : ∀ s a w, K s → Rel w0 I0 n s a w → Q .normal a w) {n1 : Nat} (hlex : lexOk ops = true) (htail : tailOk ops n1 = true) (hpure : pureOk ops n1 = true) (hn1 : n1 ≤ ops.length) {s0 : St} {rs : List Rec}
    (hrs : RecsOk V n ops s0.l (ops.take n1) 0 s0.t 0 rs) (hend : evalSeq V n ops md (ops.drop n1) ⟨tmOf s0.t (ops.take n1) rs, s0.l ++ (newsOf 0 rs).map (·.2)⟩ K) :
    ∀ (fuel : Nat) (a : Act) (w : World) (listed : Array Bool), listed.size = ops.length → unl ops.length listed = fuel → (∀ i, n1 ≤ i → i < ops.length → listed.getD i false = false) → Inv w0 I0 n n1 ops s0 rs listed a w →
      wpAnyIn RnF 0 P .any ops.toArray Q fuel listed a w := by
  have hrl : rs.length = n1 := by rw [hrs.len]; simp; omega
  have htk : ∀ i, i < n1 → (ops.take n1)[i]? = ops[i]? := fun i hi => by rw [List.getElem?_take, if_pos hi]
  intro fuel
  induction fuel with
  | zero =>
    intro a w listed hs hu htl hinv
    have hall : ∀ i, i < ops.length → listed.getD i false = true := by
      intro i hi
      have := List.length_eq_zero_iff.1 hu
      have := (List.filter_eq_nil_iff.1 this) i (List.mem_range.2 hi)
      simpa using this
    have hN : n1 = ops.length := by
      rcases Nat.lt_or_ge n1 ops.length with h | h
      · have := htl n1 (Nat.le_refl _) h; rw [hall n1 h] at this; cases this
      · omega
    exact tail_ok hV hK hlex htail 0 n1 _ a w listed hs (fun i hi => by rw [hall i hi]; simp; omega) (Nat.le_refl _) (by omega) (rel_of_inv hpure hn1 hrl hinv (fun i hi => hall i (by omega))) hend
  | succ fuel ih =>
    intro a w listed hs hu htl hinv
    by_cases hall : ∀ i, i < n1 → listed.getD i false = true
    · have hl : ∀ i, i < ops.length → listed.getD i false = decide (i < n1) := by
        intro i hi
        by_cases h : i < n1
        · rw [hall i h]; simp [h]
        · rw [htl i (by omega) hi]; simp [h]
      have := unl_tail listed n1 ops.length hn1 hl
      exact tail_ok hV hK hlex htail (fuel + 1) n1 _ a w listed hs hl (Nat.le_refl _) (by omega) (rel_of_inv hpure hn1 hrl hinv hall) hend
    · -- the least that is still to come may come
      obtain ⟨hsz, I, m, hw, hdf, hc1, hc2⟩ := hinv
      have hex : ∃ i, i < n1 ∧ listed.getD i false = false := by
        refine Classical.byContradiction fun h => hall fun i hi => ?_
        cases hb : listed.getD i false with
        | true => rfl
        | false => exact absurd ⟨i, hi, hb⟩ h
      have hleast : ∃ i, i < n1 ∧ listed.getD i false = false ∧ ∀ j, j < i → listed.getD j false = true := by
        obtain ⟨i, hi⟩ := hex
        induction i using Nat.strongRecOn with
        | ind i ih' =>
          by_cases h : ∃ j, j < i ∧ listed.getD j false = false
          · obtain ⟨j, hj, hb⟩ := h
            exact ih' j hj ⟨by omega, hb⟩
          · refine ⟨i, hi.1, hi.2, fun j hj => ?_⟩
            cases hb : listed.getD j false with
            | true => rfl
            | false => exact absurd ⟨j, hj, hb⟩ h
      obtain ⟨i0, hi0, hb0, hbl⟩ := hleast
      have ho0 : ops[i0]? = some ops[i0] := List.getElem?_eq_getElem (by omega)
      have hready0 : i0 ∈ Region.ready .any ops.toArray listed := (ready_iff hs (by omega) ho0).2 ⟨hb0, fun j hj => hbl j (lex_at hlex ho0 j hj)⟩
      refine ⟨fun h0 => (by rw [h0] at hready0; cases hready0), fun i hi => ?_⟩
      have hlt := ready_lt hi
      have hoi : ops[i]? = some ops[i] := List.getElem?_eq_getElem hlt
      obtain ⟨h1, h2⟩ := (ready_iff hs hlt hoi).1 hi
      have hin : i < n1 := by
        rcases Nat.lt_or_ge i n1 with h | h
        · exact h
        · have := h2 i0 (tail_at htail hoi h i0 (by omega)); rw [hb0] at this; cases this
      generalize ops[i] = o at hoi h2
      have hx : rs[i]? = some rs[i] := List.getElem?_eq_getElem (by omega)
      generalize rs[i] = x at hx
      obtain ⟨hrec, htm, hnid⟩ := hrs.at_ i o x (by rw [htk i hin]; exact hoi) hx
      obtain ⟨⟨qc, hg, hqp⟩, hgn, hres, hob, hdst, hnew, hgone⟩ := hrec
      unfold wpOpIn
      have : ops.toArray[i]? = some o := by simpa using hoi
      simp only [this]
      -- the slots that it reads
      have hslot : ∀ t, t ∈ readsOf ops o → RdT I m (objsAt s0.l (newsOf 0 rs) fun i => listed.getD i false) (a.tmps.getD t undef) (get x.tm t) := by
        intro t ht
        rw [htm]
        rw [show (ops.take n1).take i = ops.take i by rw [List.take_take]; congr 1; omega]
        by_cases hk : ∃ j q, j < n1 ∧ ops[j]? = some q ∧ q.dst = some t
        · obtain ⟨j, q, hj, hq, hd⟩ := hk
          obtain ⟨hji, hjw⟩ := (pure_at hpure hin hj hoi hq hd).2 ht
          have hxj : rs[j]? = some rs[j] := List.getElem?_eq_getElem (by omega)
          rw [get_tmOf_at (ops.take i) (rs.take i) s0.t t j q _ (by rw [List.getElem?_take, if_pos hji]; exact hq) (by rw [List.getElem?_take, if_pos hji]; exact hxj) hd (fun k q' hq' hk => by
            have hki : k < i := by have := (List.getElem?_eq_some_iff.1 hq').1; simp at this; omega
            rw [List.getElem?_take, if_pos hki] at hq'
            exact (pure_at hpure (by omega) hj hq' hq hd).1 hk)]
          exact hc1 j q _ t hj hq hxj (h2 j hjw) hd
        · rw [get_tmOf_other (ops.take i) (rs.take i) s0.t t (fun q hq hd => hk (by
            obtain ⟨j, hj, rfl⟩ := List.mem_iff_getElem.1 hq
            have hj' : j < i := by simp at hj; omega
            exact ⟨j, _, by omega, by rw [List.getElem?_eq_getElem (by omega)], by simpa using hd⟩))]
          exact hc2 t (fun j q hj hq _ hd => hk ⟨j, q, hj, hq, hd⟩)
      have hev : ∀ y ∈ o.op.operands, RdT I m (objsAt s0.l (newsOf 0 rs) fun i => listed.getD i false) (a.eval y) (evT x.tm y) := by
        intro y hy
        cases y with
        | tmp t => exact hslot t (List.mem_append_left _ (List.mem_filterMap.2 ⟨.tmp t, by simpa using hy, rfl⟩))
        | const v => exact constT_ok v
        | global g => exact globT_ok hw.sat.glob g
        | func f => exact .d _ _ (.fn f)
      have hwant := wanted_ok' (ops := ops) (a := a) (fun j b d hgd hd => hslot d (List.mem_append_right _ (by rw [hgd]; simp only; rw [hd]; simp))) hg
      have hwant := hwant.trans hqp
      have hu' : unl ops.length (listed.setIfInBounds i true) = fuel := by have := unl_set hs hlt h1; omega
      have htl' : ∀ k, n1 ≤ k → k < ops.length → (listed.setIfInBounds i true).getD k false = false := fun k hk hkl => by
        rw [getD_set hs hlt, if_neg (by omega)]; exact htl k hk hkl
      have hL' : ∀ j, (listed.setIfInBounds i true).getD j false = if j = i then true else listed.getD j false := fun j => getD_set hs hlt
      -- the state behind it
      have next : ∀ (J : Imm) (m' : Nat → Value) (v : Value) (w' : World), Le I m (objsAt s0.l (newsOf 0 rs) fun i => listed.getD i false) J m' (objsAt s0.l (newsOf 0 rs) fun k => (listed.setIfInBounds i true).getD k false) →
          WRel w0 I0 w' J m' (objsAt s0.l (newsOf 0 rs) fun k => (listed.setIfInBounds i true).getD k false) → RdT J m' (objsAt s0.l (newsOf 0 rs) fun k => (listed.setIfInBounds i true).getD k false) v x.out →
          wpAnyIn RnF 0 P .any ops.toArray Q fuel (listed.setIfInBounds i true) (a.put o.dst v) w' := by
        intro J m' v w' hle hw' hv
        refine ih _ _ _ (by simp [hs]) hu' htl' ⟨by cases o.dst <;> simp [Act.put, hsz], J, m', hw', hdf.put hle.imm, fun j q y d hj hq hy hl hd => ?_, fun d hd => ?_⟩
        · by_cases hji : j = i
          · subst hji
            rw [hoi] at hq; injection hq with hq; subst hq
            rw [hx] at hy; injection hy with hy; subst hy
            have hdn : d < n := by rw [hd] at hdst; simpa [dstOk] using hdst
            have : (a.put o.dst v).tmps.getD d undef = v := by simp [hd, Act.put, Array.getD_eq_getD_getElem?, hsz, hdn]
            rw [this]; exact hv
          · have hlj : listed.getD j false = true := by rw [hL' j, if_neg hji] at hl; exact hl
            have hne : o.dst ≠ some d := (pure_at hpure hin hj hoi hq hd).1 (Ne.symm hji)
            have : (a.put o.dst v).tmps.getD d undef = a.tmps.getD d undef := by
              cases hod : o.dst with
              | none => rfl
              | some d' =>
                have : d' ≠ d := fun e => hne (by rw [hod, e])
                simp [Act.put, Array.getD_eq_getD_getElem?, this]
            rw [this]; exact (hc1 j q y d hj hq hy hlj hd).mono hle
        · have hne : o.dst ≠ some d := hd i o hin hoi (by rw [hL' i, if_pos rfl])
          have : (a.put o.dst v).tmps.getD d undef = a.tmps.getD d undef := by
            cases hod : o.dst with
            | none => rfl
            | some d' =>
              have : d' ≠ d := fun e => hne (by rw [hod, e])
              simp [Act.put, Array.getD_eq_getD_getElem?, this]
          rw [this]
          exact (hc2 d (fun j q hj hq hl => hd j q hj hq (by rw [hL' j]; split <;> first | rfl | exact hl))).mono hle
      have hsame : x.new = none → (objsAt s0.l (newsOf 0 rs) fun i => listed.getD i false) = objsAt s0.l (newsOf 0 rs) fun k => (listed.setIfInBounds i true).getD k false := by
        intro hnn
        refine objsAt_same fun p hp => ?_
        rw [hL' p.1, if_neg]
        intro he
        obtain ⟨i', x', e1, e2, e3⟩ := newsOf_mem rs 0 p hp
        have : i' = i := by omega
        subst this
        rw [hx] at e2; injection e2 with e2; subst e2
        rw [hnn] at e3; cases e3
      by_cases hp : holds x.pc
      · rw [if_pos (hwant.2 hp)]
        obtain ⟨hob1, hob2⟩ := hob hp
        have hres := hres hp
        have hnd0 := evalOp_nd (show (evalOp V (fun y => (strip x.pc (evT x.tm y)).1) s0.l x.nid o).ob by rw [hres]; exact hob1)
        have hops : ∀ y ∈ o.op.operands, RdT I m (objsAt s0.l (newsOf 0 rs) fun i => listed.getD i false) (a.eval y) (strip x.pc (evT x.tm y)).1 := fun y hy =>
          strip_ok (hev y hy) hp (obAll_mem hob2 _ (List.mem_map.2 ⟨y, by simpa using hy, rfl⟩))
        have hsnd := evalOp_sound (nid := x.nid) hV hw (objsAt_com (l0 := s0.l)) hops (by rw [hres]; exact hob1)
        rw [hres] at hsnd
        unfold RSound at hsnd
        cases hnn : x.new with
        | none =>
          simp only [hnn] at hsnd
          refine StepOk.wpIn hnd0 (hsnd.mono fun v w' ⟨J, hle, hw', hv⟩ => ?_)
          rw [hsame hnn] at hle hw' hv
          refine next J m v w' (by rw [hsame hnn]; exact hle) hw' ?_
          unfold Rec.out
          split
          · exact hv
          · exact .cond _ _ _ (fun _ => hv) (fun hn => absurd hp hn)
        | some b =>
          simp only [hnn] at hsnd
          have hpc : x.pc = [] := hnew (by rw [hnn]; rfl)
          have hpos := (newsOf_spec rs 0).2.1 i x b hx hnn
          simp only [Nat.zero_add] at hpos
          have hdead : (objsAt s0.l (newsOf 0 rs) fun i => listed.getD i false)[x.nid]? = some .dead := by
            rw [hnid, Nat.add_zero]
            have := objsAt_get (l0 := s0.l) (L := fun i => listed.getD i false) hpos
            simp only [h1] at this
            simpa using this
          have hset : (objsAt s0.l (newsOf 0 rs) fun i => listed.getD i false).set x.nid b = objsAt s0.l (newsOf 0 rs) fun k => (listed.setIfInBounds i true).getD k false := by
            rw [hnid, Nat.add_zero]
            exact objsAt_set hpos (fun q y hq hy => (newsOf_spec rs 0).2.2 q _ y _ hq hpos hy) hL'
          refine StepOk.wpIn hnd0 ((hsnd hdead).mono fun v w' ⟨m', hle, hw', hv⟩ => ?_)
          rw [hset] at hle hw' hv
          refine next I m' v w' hle hw' ?_
          unfold Rec.out
          rw [if_pos hpc]; exact hv
      · rw [if_neg (fun hh => hp (hwant.1 hh))]
        have hpc : x.pc ≠ [] := by intro e; rw [e] at hp; exact hp trivial
        have hnn : x.new = none := by
          cases hn' : x.new with
          | none => rfl
          | some b => exact absurd (hnew (by rw [hn']; rfl)) hpc
        have hw' := hw
        rw [hsame hnn] at hw'
        refine ⟨fun f _ => RnF_fn f, next I m undef w (by rw [hsame hnn]; exact .refl ..) hw' ?_⟩
        unfold Rec.out
        rw [if_neg hpc]
        exact .cond _ _ _ (fun h => absurd h hp) (fun _ => rfl)
theorem draw_core (hV : VOk P V) (hm : P.follows .mixedOrders = true) (hK : ∀ s a w, K s → Rel w0 I0 n s a w → Q .normal a w) {id : Nat} {s : St} {a : Act} {w : World} {n1 : Nat} (hlex : lexOk ops = true) (htail : tailOk ops n1 = true) (hpure : pureOk ops n1 = true) (hn1 : n1 ≤ ops.length)
    (hrel : Rel w0 I0 n s a w) {rs : List Rec} (hrs : RecsOk V n ops s.l (ops.take n1) 0 s.t ([] : List (Nat × AO)).length rs) (hend : evalSeq V n ops md (ops.drop n1) ⟨tmOf s.t (ops.take n1) rs, s.l ++ (([] : List (Nat × AO)) ++ newsOf 0 rs).map (·.2)⟩ K) : (Code.region id ops.toArray true).wpIn RnF 0 P Q a w := by
  obtain ⟨hsz, I, m, hw, hdf, ht⟩ := hrel
  refine wpIn_region_any hm ?_
  have hl0 : ∀ i, (Array.replicate ops.length false).getD i false = false := fun i => by
    rw [Array.getD_eq_getD_getElem?]
    cases hx : (Array.replicate ops.length false)[i]? with
    | none => rfl
    | some b => have := Array.getElem?_eq_some_iff.1 hx; simp at this; simp [← this.2]
  have hw1 : WRel w0 I0 { w with drawn := w.drawn + 1 } I m s.l := (hw.call (w' := { w with drawn := w.drawn + 1 }) ⟨rfl, rfl, rfl, Nat.le_refl _, fun _ _ => rfl, fun _ => Nat.le_succ _⟩ (ExtI.refl _ _) ⟨hw.sat.cell, hw.sat.mp, hw.sat.df, hw.sat.glob⟩).1
  obtain ⟨hw2, hle⟩ : WRel w0 I0 { w with drawn := w.drawn + 1 } I m (objsAt s.l (newsOf 0 rs) fun i => (Array.replicate ops.length false).getD i false) ∧ Le I m s.l I m (objsAt s.l (newsOf 0 rs) fun i => (Array.replicate ops.length false).getD i false) := by
    have : (objsAt s.l (newsOf 0 rs) fun i => (Array.replicate ops.length false).getD i false) = s.l ++ List.replicate (newsOf 0 rs).length .dead := by
      unfold objsAt
      congr 1
      rw [List.eq_replicate_iff]
      refine ⟨by simp, fun b hb => ?_⟩
      obtain ⟨p, _, rfl⟩ := List.mem_map.1 hb
      rw [if_neg (by simp only [hl0]; simp)]
    rw [this]
    generalize (newsOf 0 rs).length = c
    induction c with
    | zero => simp; exact ⟨hw1, .refl ..⟩
    | succ c ih =>
      obtain ⟨q1, q2⟩ := ih
      obtain ⟨r1, r2⟩ := q1.push
      rw [List.replicate_succ', ← List.append_assoc]
      exact ⟨r1, q2.trans r2⟩
  have := pure_ok (Q := Q) (K := K) hV hK hlex htail hpure hn1 (s0 := s) (rs := rs) (by simpa using hrs) (by simpa using hend) ops.length a { w with drawn := w.drawn + 1 } (Array.replicate ops.length false) (by simp)
    (by unfold unl; rw [List.filter_eq_self.2 (fun i _ => by rw [hl0]; rfl)]; simp) (fun i _ _ => hl0 i)
    ⟨hsz, I, m, hw2, hdf.mono hle.imm, fun i o x d hi ho hx hl => (by rw [hl0] at hl; cases hl), fun d _ => (ht d).mono hle⟩
  simpa using this
theorem evalDraw_ok (hV : VOk P V) (hm : P.follows .mixedOrders = true) (hK : ∀ s a w, K s → Rel w0 I0 n s a w → Q .normal a w) {id : Nat} {s : St} {a : Act} {w : World} (hrel : Rel w0 I0 n s a w) (h : evalDraw V n ops s K) : (Code.region id ops.toArray true).wpIn RnF 0 P Q a w := by
  obtain ⟨hlex, htail, hpure, hn1, h⟩ := h
  obtain ⟨rs, hrs, hend⟩ := evalPure_recs _ _ _ _ h
  exact draw_core hV hm hK hlex htail hpure hn1 hrel hrs hend
end
end Go.Eva
namespace Go.Eva
open Go Go.RowKit
variable [Drw] [Rnd]
def Imm.sans (I : Imm) (D : Nat) : Imm := ⟨I.cell, I.mp, fun b => I.df b ∧ b ≠ D⟩
theorem Rd.sans {I : Imm} {D : Nat} {v : Value} {d : Eva.D} (h : Rd I v d) : Rd (I.sans D) v d := Rd.mono' (J := I.sans D) (I := I) (fun _ _ _ h => h) (fun _ _ h => h) h
theorem RdT.sans {I : Imm} {m : Nat → Value} {l : List AO} {D : Nat} {v : Value} {t : T} (h : RdT I m l v t) : RdT (I.sans D) m l v t := by
  induction h with
  | undef v => exact .undef v
  | d v x r => exact .d v x r.sans
  | nils s => exact .nils s
  | ptr id b off h1 h2 => exact .ptr id b off h1 h2
  | eptr b o size els k off val h1 h2 h3 h4 => exact .eptr b o size els k off val h1 h2 h3 (fun j x hx => (h4 j x hx).sans)
  | row A n c id h1 h2 => exact .row A n c id h1 h2
  | rptr a id k off h1 h2 => exact .rptr a id k off h1 h2
  | map r id h1 h2 => exact .map r id h1 h2
  | tup vs ts h1 _ ih => exact .tup vs ts h1 ih
  | cond v pc t _ hn ih => exact .cond v pc t ih hn
  | clo g vs ts h1 _ ih => exact .clo g vs ts h1 ih
  | yld id b h1 h2 => exact .yld id b h1 h2
  | sub A n c id lo hi h1 h2 => exact .sub A n c id lo hi h1 h2
  | agg vs ts h1 h2 _ ih => exact .agg vs ts h1 h2 ih
theorem WRel.shut {w0 w : World} {I0 I : Imm} {m : Nat → Value} {l : List AO} (h : WRel w0 I0 w I m l) {D : Nat} (hD : I.df D) (hB : w0.heap.size ≤ D) (o' : Obj) : WRel w0 I0 (w.putObj D o') (I.sans D) m l := by
  have hlt := h.sat.ltd hD
  have hoth : ∀ b, b ≠ D → (w.putObj D o').heap[b]? = w.heap[b]? := fun b hb => World.putObj_heap_other hb
  have hnc : ∀ {b o v}, I.cell b o = some v → b ≠ D := fun {b o v} hc e => by
    subst e
    have := h.sat.cell b o v hc
    unfold World.cell? at this
    rw [h.sat.df b hD] at this; simp at this
  have hnm : ∀ {b es}, I.mp b = some es → b ≠ D := fun {b es} hc e => by
    subst e
    have := (h.sat.mp b es hc).1
    rw [h.sat.df b hD] at this; cases this
  refine ⟨h.below.trans ⟨rfl, rfl, rfl, by simp, fun k hk => hoth k (by omega), fun _ => Nat.le_refl _⟩, ⟨fun b o v hc => ?_, fun b es hc => MapAt.to (hoth b (hnm hc)) (h.sat.mp b es hc), fun b hd => (hoth b hd.2).trans (h.sat.df b hd.1), fun g d hg => (h.sat.glob g d hg).sans⟩,
    ⟨h.ext.lc, h.ext.lm, fun b hb hd => ⟨h.ext.ld b hb hd, by omega⟩, h.ext.cell, h.ext.mp⟩, fun id o ho => ?_, h.sep⟩
  · exact (World.cell?_of_block (w := w) (a := ⟨b, o, none⟩) (hoth b (hnc hc))).trans (h.sat.cell b o v hc)
  · have hobj := h.obj id o ho
    by_cases hdd : o = .dead
    · subst hdd; trivial
    have hw : ∀ b, own (m id) = some b → (w.putObj D o').heap[b]? = w.heap[b]? := fun b hb => hoth b (fun e => by subst e; exact hobj.ndf h.sat hdd hb hD)
    cases o with
    | dead => trivial
    | var ty cs =>
      obtain ⟨b, vs, q0, q1, q2, q3, q4, q5⟩ := hobj
      exact ⟨b, vs, q0, q1, (hw b (by rw [q0]; rfl)).trans q2, q3, fun i x t hx ht => ⟨(q4 i x t hx ht).1.sans, (q4 i x t hx ht).2⟩, q5⟩
    | row e size els =>
      obtain ⟨xs, q1, q2, q3, q4⟩ := hobj
      exact ⟨xs, ownsRow_keep q1 hw, q2, fun j x y hx hy => (q3 j x y hx hy).sans, q4⟩
    | frow e size els =>
      obtain ⟨xs, q1, q2, q3, q4⟩ := hobj
      exact ⟨xs, ownsRow_keep q1 hw, q2, fun j x y hx hy => (q3 j x y hx hy).sans, q4⟩
    | map ks vs =>
      obtain ⟨b, es, q0, q1, q2, q3, q4, q5, q6, q7⟩ := hobj
      exact ⟨b, es, q0, q1, MapAt.to (hw b (by rw [q0]; rfl)) q2, q3, q4, fun i e d he hd => (q5 i e d he hd).sans, fun i e d he hd => (q6 i e d he hd).sans, q7⟩
    | fmap ks vs =>
      obtain ⟨b, es, q0, q1, q2, q3, q4, q5, q6, q7, q8⟩ := hobj
      exact ⟨b, es, q0, q1, MapAt.to (hw b (by rw [q0]; rfl)) q2, q3, q4, fun i e d he hd => (q5 i e d he hd).sans, fun i e d he hd => (q6 i e d he hd).sans, q7, q8⟩
    | iter ks vs done =>
      obtain ⟨b, mb, es, seen, q0, q1, q2, q3, q4, q5, q6, q7, q8, q9⟩ := hobj
      exact ⟨b, mb, es, seen, q0, q1, (hw b (by rw [q0]; rfl)).trans q2, q3, q4, q5, fun i e d he hd => (q6 i e d he hd).sans, fun i e d he hd => (q7 i e d he hd).sans, q8, q9⟩
    | frame base vals t => exact ⟨hobj.1, hobj.2.1, fun k => (hobj.2.2 k).sans⟩
    | loop base n ps asg body t st pend =>
      obtain ⟨b, r, q0, q1, q2, q3, q4, q5, q6⟩ := hobj
      exact ⟨b, r, q0, q1, (hw b (by rw [q0]; rfl)).trans q2, q3, q4, fun k => (q5 k).sans, q6⟩
theorem shutAll {P : Program} {F : Fence} {n : Nat} {w0 : World} {I0 : Imm} {m : Nat → Value} {l : List AO} : ∀ (Ds : List Nat) (w : World) (I : Imm), WRel w0 I0 w I m l → Ds.Nodup → (∀ D ∈ Ds, w0.heap.size ≤ D ∧ I.df D) →
    ∃ w' J, WRel w0 I0 w' J m l ∧ (∀ b, b ∉ Ds → I.df b → J.df b) ∧ (∀ v t, RdT I m l v t → RdT J m l v t) ∧ ∀ (fn : Func) (tmps : Array Value) (R : Ending → World → Prop), (∃ v, (results fn tmps).run P w' = .ok v w' ∧ R (.returned v) w') → LeavesInM F n P fn tmps R (Ds.map mark) .returning w
  | [], w, I, h, _, _ => ⟨w, I, h, fun _ _ h => h, fun _ _ h => h, fun _ _ _ hr => hr⟩
  | D :: Ds, w, I, h, hnd, hds => by
    obtain ⟨hB, hD⟩ := hds D (by simp)
    obtain ⟨hn1, hn2⟩ := List.nodup_cons.1 hnd
    obtain ⟨w', J, r1, r2, r3, r4⟩ := shutAll (P := P) (F := F) (n := n) Ds (w.putObj D (.deferred none)) (I.sans D) (h.shut hD hB _) hn2 fun x hx => ⟨(hds x (by simp [hx])).1, (hds x (by simp [hx])).2, fun e => hn1 (e ▸ hx)⟩
    refine ⟨w', J, r1, fun b hb hd => r2 b (fun hm => hb (by simp [hm])) ⟨hd, fun e => hb (by simp [e])⟩, fun v t hv => r3 v t hv.sans, fun fn tmps R hr => ?_⟩
    exact ⟨by simp, .inl ⟨D, _, rfl, run_takeDeferred (h.sat.df D hD), r4 fn tmps R hr⟩⟩
theorem calls_marks {P : Program} {f : FuncId} {fn : Func} {c : Code} {args : Array Value} {w : World} {R : Ending → World → Prop} (hr0 : Rnd.r = none) (hf : P.funcs[f]? = some fn) (hb : fn.body = some c)
    (h : c.wpIn RnF 0 P (bodyPostM RnF 0 P fn R) { tmps := args ++ Array.replicate (fn.ntmps - args.size) undef, defers := [] } w) : Calls P f args w R := by
  have e : RnF = Fence.wide := by unfold RnF; rw [hr0]; rfl
  rw [e] at h
  exact (callsIn_wide (n := 0)).1 (callsIn_of_wp_marks hf hb trivial h)
theorem endMarks {P : Program} {fn : Func} {e : Exit} {a : Act} {w0 w : World} {I0 I : Imm} {m : Nat → Value} {l : List AO} (he : e = .ret ∨ e = .normal) (h : WRel w0 I0 w I m l) (hd : Dfs w0.heap.size I a.defers) :
    ∃ w' J, WRel w0 I0 w' J m l ∧ (∀ b, Rnd.keep b → J.df b) ∧ (∀ v t, RdT I m l v t → RdT J m l v t) ∧ ∀ (R : Ending → World → Prop), (∃ v, (results fn a.tmps).run P w' = .ok v w' ∧ R (.returned v) w') → bodyPostM RnF 0 P fn R e a w := by
  obtain ⟨Ds, h1, h2, h3, h4⟩ := hd
  obtain ⟨w', J, r1, r2, r3, r4⟩ := shutAll (P := P) (F := RnF) (n := 0) Ds w I h h2 fun D hD => ⟨(h3 D hD).1, (h3 D hD).2.2⟩
  refine ⟨w', J, r1, fun b hk => r2 b (fun hm => (h3 b hm).2.1 hk) (h4 b hk), r3, fun R hr => ?_⟩
  have := r4 fn a.tmps R hr
  rw [← h1] at this
  rcases he with rfl | rfl <;> exact this
def AWp (P : Program) (w0 : World) (I0 : Imm) (n : Nat) (c : Code) (s : St) (Q : Exit → St → Prop) : Prop :=
  ∀ a w, Rel w0 I0 n s a w → c.wpIn RnF 0 P (fun e a' w' => ∃ s', Q e s' ∧ Rel w0 I0 n s' a' w') a w
def Sub (s s' : St) : Prop := ∀ w0 I0 n a w, Rel w0 I0 n s a w → Rel w0 I0 n s' a w
theorem Sub.refl (s : St) : Sub s s := fun _ _ _ _ _ h => h
section
variable {P : Program} {V : Env} {w0 : World} {I0 : Imm} {n : Nat} {Q Q' : Exit → St → Prop} {s s' : St} {x y : Code}
theorem AWp.mono (h : AWp P w0 I0 n x s Q) (hq : ∀ e s, Q e s → Q' e s) : AWp P w0 I0 n x s Q' := fun a w hr =>
  Code.wpIn_mono (fun e _ _ ⟨s', h1, h2⟩ => ⟨s', hq e s' h1, h2⟩) (h a w hr)
theorem AWp.sub (hs : Sub s s') (h : AWp P w0 I0 n x s' Q) : AWp P w0 I0 n x s Q := fun a w hr => h a w (hs _ _ _ _ _ hr)
theorem AWp.region (hV : VOk P V) {id : Nat} {ops : List Oper} (h : evalSeq V n ops none ops s (Q .normal)) : AWp P w0 I0 n (.region id ops.toArray false) s Q := fun a w hr => by
  refine wpIn_region_lit (evalSeq_ok (Q := fun e a' w' => ∃ s', Q e s' ∧ Rel w0 I0 n s' a' w') (K := Q .normal) hV (fun s _ _ h1 h2 => ⟨s, h1, h2⟩) ops s a w hr h)
theorem AWp.draw (hV : VOk P V) (hm : P.follows .mixedOrders = true) {id : Nat} {ops : List Oper} (h : evalDraw V n ops s (Q .normal)) : AWp P w0 I0 n (.region id ops.toArray true) s Q := fun a w hr =>
  evalDraw_ok (Q := fun e a' w' => ∃ s', Q e s' ∧ Rel w0 I0 n s' a' w') (K := Q .normal) hV hm (fun s _ _ h1 h2 => ⟨s, h1, h2⟩) hr h
def thenQ (K : St → Prop) (Q : Exit → St → Prop) : Exit → St → Prop
  | .normal, s => K s
  | e, s => Q e s
theorem AWp.seq (h : AWp P w0 I0 n x s (thenQ (fun s' => AWp P w0 I0 n y s' Q) Q)) : AWp P w0 I0 n (x.seq y) s Q := fun a w hr =>
  wpIn_seq (Code.wpIn_mono (fun e a' w' ⟨s', h1, h2⟩ => by
    cases e <;> first | exact h1 a' w' h2 | exact ⟨s', h1, h2⟩) (h a w hr))
@[reducible] def rndX : Rnd := ⟨none, fun _ => False⟩
def boolOf : T → Option Bool
  | .d (.bool b) => some b
  | _ => none
theorem AWp.cond {c : Operand} {b : Bool} (hc : boolOf (evT s.t c) = some b) (h1 : b = true → AWp P w0 I0 n x s Q) (h2 : b = false → AWp P w0 I0 n y s Q) : AWp P w0 I0 n (.cond c x y) s Q := fun a w hr => by
  have hr' := hr
  obtain ⟨_, I, m, hw, _, ht⟩ := hr'
  have hv := evT_ok hw.sat.glob ht c
  have hc' : evT s.t c = .d (.bool b) := by
    unfold boolOf at hc
    split at hc
    · rename_i b' hb; injection hc with hc; rw [hb, hc]
    · cases hc
  rw [hc'] at hv
  have := rdD hv
  generalize hav : a.eval c = v at this
  cases this
  refine wpIn_cond hav ?_
  cases b with
  | true => exact h1 rfl a w hr
  | false => exact h2 rfl a w hr
def inBlockQ (id : Nat) (Q : Exit → St → Prop) : Exit → St → Prop
  | .exit id', s => if id' = id then Q .normal s else Q (.exit id') s
  | e, s => Q e s
theorem AWp.block {id : Nat} (h : AWp P w0 I0 n x s (inBlockQ id Q)) : AWp P w0 I0 n (.block id x) s Q := fun a w hr =>
  wpIn_block (Code.wpIn_mono (fun e a' w' ⟨s', h1, h2⟩ => by
    cases e <;> first | exact ⟨s', h1, h2⟩ | skip
    simp only [inBlockQ] at h1
    simp only [Exit.inBlock]
    split <;> rename_i hh
    · rw [if_pos hh] at h1; exact ⟨s', h1, h2⟩
    · rw [if_neg hh] at h1; exact ⟨s', h1, h2⟩) (h a w hr))
theorem AWp.exit {id : Nat} (h : Q (.exit id) s) : AWp P w0 I0 n (.exit id) s Q := fun _ _ hr => wpIn_exit ⟨s, h, hr⟩
theorem AWp.ret (h : Q .ret s) : AWp P w0 I0 n .ret s Q := fun _ _ hr => wpIn_ret ⟨s, h, hr⟩
theorem AWp.skip (h : Q .normal s) : AWp P w0 I0 n .skip s Q := fun _ _ hr => wpIn_skip ⟨s, h, hr⟩
theorem AWp.loop {X : Type} (F : X → St) (p : X → Prop) (μ : X → Nat) (x0 : X) (h0 : p x0) (hs : Sub s (F x0))
    (round : ∀ z, p z → AWp P w0 I0 n x (F z) (thenQ (fun s' => ∃ z', p z' ∧ μ z' < μ z ∧ Sub s' (F z')) Q)) : AWp P w0 I0 n (.loop x) s Q := fun a w hr => by
  refine wpIn_loop_ghost (fun k a w => ∃ z, p z ∧ μ z = k ∧ Rel w0 I0 n (F z) a w) (μ x0) ⟨x0, h0, rfl, hs _ _ _ _ _ hr⟩ fun k a w ⟨z, hz, hk, hr⟩ => ?_
  refine Code.wpIn_mono (fun e a' w' ⟨s', h1, h2⟩ => ?_) (round z hz a w hr)
  cases e <;> first | exact ⟨s', h1, h2⟩ | skip
  obtain ⟨z', q1, q2, q3⟩ := h1
  exact ⟨μ z', by omega, z', q1, rfl, q3 _ _ _ _ _ h2⟩
def resT (V : Env) (s : St) : ResultVar → T × Prop
  | .tmp t => (get s.t t, True)
  | .cell a ty => match loadAs V.E ty s.l (get s.t a) with | ⟨t, .none, ob⟩ => (t, ob) | _ => (.undef, False)
def retOk (V : Env) (s : St) (rv : List ResultVar) (r : D) : Prop :=
  obAll (rv.map fun v => (resT V s v).2) ∧ match argsD s.l (rv.map fun v => (resT V s v).1) with
    | some ([d], _) => d = r
    | some (ds, _) => D.tup ds = r
    | none => False
def resSem (tmps : Array Value) : ResultVar → Sem Value
  | .tmp t => pure (tmps.getD t undef)
  | .cell b t => do loadVar t (← asAddr (tmps.getD b undef))
theorem results_eq (fn : Func) (tmps : Array Value) : results fn tmps = (do
    let vs ← fn.results.mapM (resSem tmps)
    pure (if h : vs.size = 1 then vs[0] else .tuple vs)) := by
  unfold results
  congr 1
theorem res_ok (hE : TOk P V.E) {I : Imm} {m : Nat → Value} {w : World} {a : Act} (hw : WRel w0 I0 w I m s.l) (ht : ∀ k, RdT I m s.l (a.tmps.getD k undef) (get s.t k)) : ∀ (rv : List ResultVar), obAll (rv.map fun v => (resT V s v).2) →
    ∃ vs : List Value, (rv.mapM (resSem a.tmps)).run P w = .ok vs w ∧ vs.length = rv.length ∧ ∀ (i : Nat) v t, vs[i]? = some v → (rv.map fun v => (resT V s v).1)[i]? = some t → RdT I m s.l v t
  | [], _ => ⟨[], by simp, rfl, by simp⟩
  | q :: rv, h => by
    obtain ⟨h1, h2⟩ := h
    obtain ⟨vs, k1, k2, k3⟩ := res_ok hE hw ht rv h2
    have hd : ∃ v, (resSem a.tmps q).run P w = .ok v w ∧ RdT I m s.l v (resT V s q).1 := by
      cases q with
      | tmp t => exact ⟨_, by simp [resSem], ht t⟩
      | cell b ty =>
        simp only [resT] at h1 ⊢
        have hx := ht b
        split at h1
        · rename_i t ob hl
          obtain ⟨_, u, q1, q2⟩ := loadAs_ok hE hw (Com.refl _) (ty := ty) hx (by rw [hl]; exact h1)
          rw [hl] at q2
          refine ⟨u, ?_, by simpa [hl] using q2⟩
          -- the slot holds an address
          have : ∃ ad, a.tmps.getD b undef = .pointer (some ad) := by
            generalize a.tmps.getD b undef = v at hx
            generalize get s.t b = tb at hx hl
            cases hx <;> first | exact ⟨_, rfl⟩ | (simp only [loadAs, R.bad, R.mk.injEq] at hl; rw [← hl.2.2] at h1; exact h1.elim)
          obtain ⟨ad, had⟩ := this
          rw [had] at q1
          simp only [Instr.loadAt, Instr.sureAddr, Sem.run_bind, Sem.run_pure, Result.andThen_ok] at q1
          simp only [resSem, had, asAddr, Sem.run_bind, Sem.run_pure, Result.andThen_ok]
          exact q1
        · exact h1.elim
    obtain ⟨v, q1, q2⟩ := hd
    refine ⟨v :: vs, ?_, by simp [k2], fun i u t hu hT => ?_⟩
    · rw [List.mapM_cons]
      simp only [Sem.run_bind, q1, Result.andThen_ok, k1, Sem.run_pure]
    · rcases i with _ | i
      · simp at hu hT; subst hu; subst hT; exact q2
      · simp at hu hT; exact k3 i u t hu (by simpa using hT)
def startT : Nat → List D → Tm
  | _, [] => []
  | k, d :: ds => (k, .d d) :: startT (k + 1) ds
theorem startT_get : ∀ (ds : List D) (k j : Nat), get (startT k ds) j = if k ≤ j then (match ds[j - k]? with | some d => .d d | none => .undef) else .undef
  | [], k, j => by simp [startT, get]
  | d :: ds, k, j => by
    simp only [startT, get]
    by_cases h : k = j
    · subst h; simp
    · rw [if_neg h, startT_get ds (k + 1) j]
      by_cases h1 : k ≤ j
      · rw [if_pos (by omega), if_pos h1, show j - k = (j - (k + 1)) + 1 by omega]; simp
      · rw [if_neg (by omega), if_neg h1]
def startTT : Nat → List T → Tm
  | _, [] => []
  | k, t :: ts => (k, t) :: startTT (k + 1) ts
theorem startTT_get : ∀ (ts : List T) (k j : Nat), get (startTT k ts) j = if k ≤ j then (ts[j - k]?).getD .undef else .undef
  | [], k, j => by simp [startTT, get]
  | d :: ds, k, j => by
    simp only [startTT, get]
    by_cases h : k = j
    · subst h; simp
    · rw [if_neg h, startTT_get ds (k + 1) j]
      by_cases h1 : k ≤ j
      · rw [if_pos (by omega), if_pos h1, show j - k = (j - (k + 1)) + 1 by omega]; simp
      · rw [if_neg (by omega), if_neg h1]
def tupT : List T → T
  | [t] => t
  | ts => .tup ts
def RetX (V : Env) (s2 : St) (rv : List ResultVar) (base : Nat) (vals : Nat → Value) (ft : Tm) (K : T → List AO → Prop) : Prop :=
  ∃ s3, Sub s2 s3 ∧ obAll (rv.map fun v => (resT V s3 v).2) ∧ s3.l[base]? = some (.frame base vals ft) ∧ K (tupT (rv.map fun v => (resT V s3 v).1)) s3.l
theorem SemC.of {f : FuncId} {fn : Func} {c : Code} {ts : List T} {l : List AO} {K : T → List AO → Prop} (hV : VOk P V) (hen : Enters P f) (hf : P.funcs[f]? = some fn) (hb : fn.body = some c) (hn : ts.length ≤ fn.ntmps)
    (h : ∀ (R : Rnd), R.r = none → ∀ w0 I0 vals ft (Q : Exit → St → Prop), (∀ e s2, (e = .ret ∨ e = .normal) → RetX V s2 fn.results.toList l.length vals ft K → Q e s2) → AWp P w0 I0 fn.ntmps c ⟨startTT 0 ts, l ++ [.frame l.length vals ft]⟩ Q) : SemC P f ts l K := by
  refine ⟨hen, fun w0 I0 w I m args vals ft hrel hlen hargs hft => ?_⟩
  let R : Rnd := ⟨none, I.df⟩
  refine calls_marks (R := fun e w' => ∃ v, e = .returned v ∧ ∃ t l' J m', K t l' ∧ WRel w0 I0 w' J m' l' ∧ RdT J m' l' v t ∧ (∀ b, I.df b → J.df b) ∧ ∀ k, RdT J m' l' (vals k) (get ft k)) rfl hf hb ?_
  -- the frame
  have hrel' : WRel w0 I0 w I (upd m l.length (.bool false)) (l ++ [.frame l.length vals ft]) ∧ Le I m l I (upd m l.length (.bool false)) (l ++ [.frame l.length vals ft]) := by
    have hget : ∀ k, k < l.length → (l ++ [AO.frame l.length vals ft])[k]? = l[k]? := fun k hk => List.getElem?_append_left hk
    have hlast : (l ++ [AO.frame l.length vals ft])[l.length]? = some (.frame l.length vals ft) := by simp
    have hle : Le I m l I (upd m l.length (.bool false)) (l ++ [.frame l.length vals ft]) := by
      refine ⟨.refl I, by simp, fun id hid hv => ⟨?_, upd_ne m _ (by omega)⟩, fun id hid hr => ⟨?_, upd_ne m _ (by omega)⟩, fun id e' s' els' hid hh => ⟨els', ?_⟩⟩
      · unfold isVar at hv ⊢; rw [hget id hid]; exact hv
      · unfold isRow at hr ⊢; rw [hget id hid] at hr; exact hr
      · rw [hget id hid] at hh; exact hh
    have hal : ∀ k, k ≠ l.length → alive (l ++ [AO.frame l.length vals ft]) k = true → alive l k = true := by
      intro k hk ha
      obtain ⟨o, ho, hd⟩ := alive_iff.1 ha
      have hkl : k < l.length := by have := (List.getElem?_eq_some_iff.1 ho).1; simp at this; omega
      rw [hget k hkl] at ho
      exact alive_iff.2 ⟨o, ho, hd⟩
    refine ⟨⟨hrel.below, hrel.sat, hrel.ext, fun id o ho => ?_, fun i j b hij hi hj hbi hbj => ?_⟩, hle⟩
    · by_cases hid : id < l.length
      · rw [hget id hid] at ho; rw [upd_ne m _ (by omega)]
        by_cases hd : o = .dead
        · subst hd; trivial
        · exact (hrel.obj id o ho).keep hle (fun _ _ => rfl) (fun _ _ => ⟨rfl, rfl⟩)
      · have : id = l.length := by
          have := (List.getElem?_eq_some_iff.1 ho).1; simp at this; omega
        subst this
        rw [hlast] at ho; injection ho with ho; subst ho
        rw [upd_same]
        refine ⟨rfl, by simp, fun k => ?_⟩
        have e : (l ++ [AO.frame l.length vals ft]).take l.length = l := by simp
        rw [e]
        refine (hft k).mono ⟨.refl I, Nat.le_refl _, fun id hid hv => ⟨hv, upd_ne m _ (by omega)⟩, fun id hid hr => ⟨hr, upd_ne m _ (by omega)⟩, fun id e' s' els' hid hh => ⟨els', hh⟩⟩
    · by_cases h1 : i = l.length
      · subst h1; rw [upd_same] at hbi; cases hbi
      · by_cases h2 : j = l.length
        · subst h2; rw [upd_same] at hbj; cases hbj
        · rw [upd_ne m _ h1] at hbi; rw [upd_ne m _ h2] at hbj
          exact hrel.sep i j b hij (hal i h1 hi) (hal j h2 hj) hbi hbj
  obtain ⟨hrel', hle⟩ := hrel'
  have hstart : Rel w0 I0 fn.ntmps ⟨startTT 0 ts, l ++ [.frame l.length vals ft]⟩ { tmps := args ++ Array.replicate (fn.ntmps - args.size) undef, defers := [] } w := by
    refine ⟨by simp; omega, I, _, hrel', Dfs.nil fun _ h => h, fun k => ?_⟩
    rw [startTT_get]
    simp only [Nat.zero_le, if_true, Nat.sub_zero]
    cases hd : ts[k]? with
    | none => exact .undef _
    | some d =>
      have hk : k < args.size := by rw [hlen]; exact (List.getElem?_eq_some_iff.1 hd).1
      have hv : args[k]? = some args[k] := Array.getElem?_eq_getElem hk
      have : (args ++ Array.replicate (fn.ntmps - args.size) undef).getD k undef = args[k] := by
        rw [Array.getD_eq_getD_getElem?, Array.getElem?_append_left hk, hv]; rfl
      rw [this]
      exact (hargs k _ d hv hd).mono hle
  refine Code.wpIn_mono (fun e a w1 ⟨s2, ⟨he, s3, hsub, hob, hfr, hk⟩, hr⟩ => ?_) (h R rfl w0 I0 vals ft (fun e s2 => (e = .ret ∨ e = .normal) ∧ RetX V s2 fn.results.toList l.length vals ft K) (fun e s2 he hx => ⟨he, hx⟩) _ _ hstart)
  obtain ⟨_, J1, m', hw1, hdf, ht1⟩ := hsub _ _ _ _ _ hr
  obtain ⟨w', J, hw, hkeep, hdrop, hend⟩ := endMarks (P := P) (fn := fn) (a := a) he hw1 hdf
  refine hend _ ?_
  have ht : ∀ k, RdT J m' s3.l (a.tmps.getD k undef) (get s3.t k) := fun k => hdrop _ _ (ht1 k)
  obtain ⟨rvs, q1, q2, q3⟩ := res_ok (P := P) hV.E hw ht fn.results.toList hob
  have hrun : (results fn a.tmps).run P w' = .ok (if h : rvs.length = 1 then rvs[0] else .tuple rvs.toArray) w' := by
    rw [results_eq]
    simp only [Sem.run_bind, Array.mapM_eq_mapM_toList, Sem.run_map, q1, Result.andThen_ok, Sem.run_pure]
    simp
  have hfo := hw.obj _ _ hfr
  refine ⟨_, hrun, _, rfl, _, _, J, m', hk, hw, ?_, hkeep, fun k => (hfo.2.2 k).mono (Le.untake J m' s3.l l.length)⟩
  have hl2 : rvs.length = (fn.results.toList.map fun v => (resT V s3 v).1).length := by simp [q2]
  generalize (fn.results.toList.map fun v => (resT V s3 v).1) = tl at hl2 q3
  match tl, hl2 with
  | [t], hl2 =>
    have hl3 : rvs.length = 1 := hl2
    rw [dif_pos hl3]
    exact q3 0 _ t (List.getElem?_eq_getElem (by omega)) rfl
  | [], hl2 =>
    rw [dif_neg (by simp at hl2; simp [hl2])]
    exact .tup _ _ (by simpa using hl2) (fun i v d hv hd => q3 i v d (by simpa using hv) hd)
  | t1 :: t2 :: tr, hl2 =>
    rw [dif_neg (by rw [hl2]; simp)]
    exact .tup _ _ (by simpa using hl2) (fun i v d hv hd => q3 i v d (by simpa using hv) hd)
theorem PureCon.of {f : FuncId} {fn : Func} {c : Code} {ds : List D} {r : D} (hV : VOk P V) (hf : P.funcs[f]? = some fn) (hb : fn.body = some c) (hn : ds.length ≤ fn.ntmps)
    (h : ∀ (R : Rnd), R.r = none → ∀ w0 I0, AWp P w0 I0 fn.ntmps c ⟨startT 0 ds, []⟩ fun e s => (e = .ret ∨ e = .normal) ∧ retOk V s fn.results.toList r) : PureCon P f ds r := by
  intro w I vs hsat hlen hrd
  let R : Rnd := ⟨none, I.df⟩
  refine calls_marks (R := fun e w' => ∃ v J, e = .returned v ∧ Bel w.heap.size w w' ∧ ExtI w.heap.size I J ∧ SatI w' J ∧ Rd J v r) rfl hf hb ?_
  have hrel : Rel w I fn.ntmps ⟨startT 0 ds, []⟩ { tmps := vs ++ Array.replicate (fn.ntmps - vs.size) undef, defers := [] } w := by
    refine ⟨by simp; omega, I, fun _ => undef, ⟨Bel.refl _ _, hsat, ExtI.refl _ _, by simp, by simp [alive, isVar, isRow]⟩, Dfs.nil fun _ h => h, fun k => ?_⟩
    rw [startT_get]
    simp only [Nat.zero_le, if_true, Nat.sub_zero]
    cases hd : ds[k]? with
    | none => exact .undef _
    | some d =>
      have hk : k < vs.size := by rw [hlen]; exact (List.getElem?_eq_some_iff.1 hd).1
      have hv : vs[k]? = some vs[k] := Array.getElem?_eq_getElem hk
      have : (vs ++ Array.replicate (fn.ntmps - vs.size) undef).getD k undef = vs[k] := by
        rw [Array.getD_eq_getD_getElem?, Array.getElem?_append_left hk, hv]; rfl
      rw [this]
      exact .d _ _ (hrd k _ d hv hd)
  refine Code.wpIn_mono (fun e a w1 ⟨s, ⟨he, hob, hret⟩, hr⟩ => ?_) (h R rfl w I _ _ hrel)
  obtain ⟨_, J1, m, hw1, hdf, ht1⟩ := hr
  obtain ⟨w', J, hw, _, hdrop, hend⟩ := endMarks (P := P) (fn := fn) (a := a) he hw1 hdf
  refine hend _ ?_
  have ht : ∀ k, RdT J m s.l (a.tmps.getD k undef) (get s.t k) := fun k => hdrop _ _ (ht1 k)
  obtain ⟨rvs, q1, q2, q3⟩ := res_ok (P := P) hV.E hw ht fn.results.toList hob
  have fin : ∃ v, (results fn a.tmps).run P w' = .ok v w' ∧ ∃ J', ExtI w.heap.size I J' ∧ SatI w' J' ∧ Rd J' v r := by
    have hrun : (results fn a.tmps).run P w' = .ok (if h : rvs.length = 1 then rvs[0] else .tuple rvs.toArray) w' := by
      rw [results_eq]
      simp only [Sem.run_bind, Array.mapM_eq_mapM_toList, Sem.run_map, q1, Result.andThen_ok, Sem.run_pure]
      simp
    refine ⟨_, hrun, ?_⟩
    split at hret
    · rename_i d l' hd
      obtain ⟨J', le, r1, hl, hrd', _⟩ := argsD_ok _ _ _ rvs [d] l' hw (by simp [q2]) q3 hd
      subst hret
      have hl : rvs.length = 1 := hl
      refine ⟨J', r1.ext, r1.sat, ?_⟩
      rw [dif_pos hl]
      exact hrd' 0 _ d (List.getElem?_eq_getElem (by omega)) rfl
    · rename_i ds' l' hne hd
      obtain ⟨J', le, r1, hl, hrd', _⟩ := argsD_ok _ _ _ rvs ds' l' hw (by simp [q2]) q3 hd
      subst hret
      refine ⟨J', r1.ext, r1.sat, ?_⟩
      by_cases h1 : rvs.length = 1
      · rw [h1] at hl
        match ds', hl with
        | [d], _ => exact (hne d rfl).elim
      · rw [dif_neg h1]
        exact .tup _ _ (by simp [hl]) (fun i v d hv hd => hrd' i v d (by simpa using hv) hd)
    · exact hret.elim
  obtain ⟨v, p1, J', p2, p3, p4⟩ := fin
  exact ⟨v, p1, v, J', rfl, hw.below, p2, p3, p4⟩
end
end Go.Eva
namespace Go.Eva
open Go Go.RowKit
theorem TOk.of_tab {P : Program} {tab : List (Nat × TI)} (h : tab.all (fun p => tiOk P p.1 p.2) = true) : TOk P (fun t => (tab.find? fun p => p.1 == t).map (·.2)) := by
  intro t i ht
  cases hf : tab.find? (fun p => p.1 == t) with
  | none => simp [hf] at ht
  | some p =>
    simp [hf] at ht
    have h1 := List.find?_some hf
    have h2 := List.all_eq_true.1 h p (List.mem_of_find?_eq_some hf)
    simp at h1
    subst h1; subst ht
    exact h2
theorem Enters.of {P : Program} {f : FuncId} {fn : Func} (hf : P.funcs[f]? = some fn) (h : (fn.name == "runtime.NumGoroutine") = false ∧ fn.body.isNone = false) : Enters P f := by
  intro args w
  simp only [callFunc, Sem.run_bind, run_program, Result.andThen_ok, hf, h.1, h.2, Bool.false_eq_true, if_false, Sem.run_pure]
variable [Drw] [Rnd]
section
variable {P : Program} {V : Env} {w0 : World} {I0 : Imm} {n : Nat} {Q : Exit → St → Prop} {s s1 : St} {y : Code}
theorem AWp.regionS (hV : VOk P V) {id : Nat} {ops : List Oper} (h : evalSeq V n ops none ops s (fun s' => s' = s1)) (k : Q .normal s1) : AWp P w0 I0 n (.region id ops.toArray false) s Q :=
  AWp.region hV (evalSeq_mono (fun s hs => by subst hs; exact k) _ _ h)
theorem AWp.seqR (hV : VOk P V) {id : Nat} {ops : List Oper} (h : evalSeq V n ops none ops s (fun s' => s' = s1)) (k : AWp P w0 I0 n y s1 Q) : AWp P w0 I0 n ((Code.region id ops.toArray false).seq y) s Q :=
  AWp.seq (AWp.regionS hV h k)
theorem AWp.seqK (hV : VOk P V) {id : Nat} {ops : List Oper} (h : evalSeq V n ops none ops s (fun s' => AWp P w0 I0 n y s' Q)) : AWp P w0 I0 n ((Code.region id ops.toArray false).seq y) s Q :=
  AWp.seq (AWp.region hV h)
theorem AWp.seqD (hV : VOk P V) (hm : P.follows .mixedOrders = true) {id : Nat} {ops : List Oper} (h : evalDraw V n ops s (fun s' => AWp P w0 I0 n y s' Q)) : AWp P w0 I0 n ((Code.region id ops.toArray true).seq y) s Q :=
  AWp.seq (AWp.draw hV hm h)
end
end Go.Eva
namespace Go.Eva
open Go Go.RowKit
def fieldsShape (sh : TypeId → Option (List Lf)) : List Field → Nat → Option (List Lf)
  | [], _ => some []
  | f :: r, off => if f.name = "_" ∨ f.offset ≠ off then none else match sh f.type with
    | some ls => (match fieldsShape sh r (off + ls.length) with | some rs => some (ls ++ rs) | none => none)
    | none => none
def eqShape (P : Program) : Nat → TypeId → Option (List Lf)
  | 0, _ => none
  | d + 1, t => match P.info? t with
    | none => none
    | some i => match P.underlying t with
      | some .bool => some [.bool]
      | some (.int k) => some [.int k]
      | some .string => some [.str]
      | some (.struct fs) => if P.stoodInHeld t then none else match fieldsShape (eqShape P d) fs.toList 0 with
        | some ls => if i.size = ls.length then some ls else none
        | none => none
      | _ => none
def lfV : Lf → Value → Bool
  | .bool, .bool _ => true
  | .int k, .int k' _ => k == k'
  | .str, .string _ => true
  | _, _ => false
def lfsV : List Lf → List Value → Bool
  | [], [] => true
  | x :: xs, d :: ds => lfV x d && lfsV xs ds
  | _, _ => false
def eqV : Value → Value → Bool
  | .bool a, .bool b => a == b
  | .int _ a, .int _ b => a == b
  | .string a, .string b => a == b
  | _, _ => false
def eqVs : List Value → List Value → Bool
  | [], [] => true
  | x :: xs, y :: ys => eqV x y && eqVs xs ys
  | _, _ => false
theorem lfsV_len : ∀ {ls : List Lf} {vs : List Value}, lfsV ls vs = true → vs.length = ls.length
  | [], [], _ => rfl
  | _ :: _, _ :: _, h => by simp only [lfsV, Bool.and_eq_true] at h; simp [lfsV_len h.2]
  | [], _ :: _, h => by simp [lfsV] at h
  | _ :: _, [], h => by simp [lfsV] at h
theorem lfsV_append : ∀ {a b : List Lf} {vs : List Value}, lfsV (a ++ b) vs = true → lfsV a (vs.take a.length) = true ∧ lfsV b (vs.drop a.length) = true
  | [], b, vs, h => by simp [lfsV]; exact h
  | x :: a, b, v :: vs, h => by
    simp only [List.cons_append, lfsV, Bool.and_eq_true] at h
    obtain ⟨h1, h2⟩ := lfsV_append h.2
    simp [lfsV, h.1, h1, h2]
  | _ :: _, _, [], h => by simp [lfsV] at h
theorem eqVs_append : ∀ {a c : List Value} {b d : List Value}, a.length = c.length → eqVs (a ++ b) (c ++ d) = (eqVs a c && eqVs b d)
  | [], [], b, d, _ => by simp [eqVs]
  | x :: a, y :: c, b, d, h => by simp only [List.cons_append, eqVs, eqVs_append (a := a) (c := c) (by simpa using h), Bool.and_assoc]
  | [], _ :: _, _, _, h => by simp at h
  | _ :: _, [], _, _, h => by simp at h
section
variable {P : Program}
def partV (P : Program) (t : TypeId) (vs : List Value) : Value := match P.underlying t with
  | some (.struct _) => .agg vs.toArray
  | _ => vs.headD undef
theorem shape_size {d : Nat} {t : TypeId} {ls : List Lf} (h : eqShape P d t = some ls) : ∃ i, P.info? t = some i ∧ ((∃ fs, P.underlying t = some (.struct fs)) → i.size = ls.length) ∧ ((∀ fs, P.underlying t ≠ some (.struct fs)) → ls.length = 1) ∧ (∀ n e, P.underlying t ≠ some (.array n e)) ∧ P.underlying t ≠ none := by
  cases d with
  | zero => simp [eqShape] at h
  | succ d =>
    simp only [eqShape] at h
    split at h
    · cases h
    · rename_i i hi
      refine ⟨i, hi, ?_⟩
      split at h
      · rename_i hu; injection h with h; subst h; simp [hu]
      · rename_i hu; injection h with h; subst h; simp [hu]
      · rename_i hu; injection h with h; subst h; simp [hu]
      · rename_i fs hu
        split at h
        · cases h
        · split at h
          · split at h
            · rename_i hs; injection h with h; subst h; simp [hu, hs]
            · cases h
          · cases h
      · cases h
theorem run_part_shape {d : Nat} {t : TypeId} {ls : List Lf} (h : eqShape P d t = some ls) (xs : Array Value) (off : Nat) (hle : off + ls.length ≤ xs.size) (w : World) :
    (part t xs off).run P w = .ok (partV P t ((xs.toList.drop off).take ls.length)) w := by
  obtain ⟨i, hi, h1, h2, h3, h4⟩ := shape_size h
  cases hu : P.underlying t with
  | none => exact absurd hu h4
  | some desc =>
    have hagg : (isAgg t).run P w = .ok (match desc with | .struct _ | .array _ _ => true | _ => false) w := by
      unfold isAgg; simp only [Sem.run_bind, run_underlying hu, Result.andThen_ok]; cases desc <;> rfl
    have hsz : (sizeOf t).run P w = .ok i.size w := by simp [sizeOf, typeInfo, hi]
    cases desc with
    | struct fs =>
      have := h1 ⟨fs, hu⟩
      simp only [part, Sem.run_bind, hagg, Result.andThen_ok, if_true, hsz, Sem.run_pure, partV, hu]
      congr 2
      apply Array.toList_inj.1
      rw [Array.toList_extract]
      simp [List.extract_eq_take_drop, this]
    | array n e => exact absurd hu (h3 n e)
    | _ =>
      have h1' := h2 (by simp [hu])
      have hlt : off < xs.size := by omega
      simp only [part, Sem.run_bind, hagg, Result.andThen_ok, Bool.false_eq_true, if_false, Array.getElem?_eq_getElem hlt, Sem.run_pure, partV, hu]
      congr 1
      rw [h1', List.drop_eq_getElem_cons (by simpa using hlt)]
      simp
theorem run_equal_shape : ∀ (d D : Nat) (t : TypeId) (ls : List Lf), eqShape P d t = some ls → d ≤ D → ∀ (xs ys : List Value), lfsV ls xs = true → lfsV ls ys = true → ∀ w, (Op.equalIn D t (partV P t xs) (partV P t ys)).run P w = .ok (eqVs xs ys) w := by
  intro d
  induction d with
  | zero => intro D t ls h; simp [eqShape] at h
  | succ d ih =>
    intro D t ls h hD xs ys hx hy w
    obtain ⟨D, rfl⟩ : ∃ D', D = D' + 1 := ⟨D - 1, by omega⟩
    have hs := h
    simp only [eqShape] at h
    split at h
    · cases h
    · rename_i i hi
      have one : ∀ {x : Lf} {vs : List Value}, lfsV [x] vs = true → ∃ v, vs = [v] ∧ lfV x v = true := by
        intro x vs h
        match vs, h with
        | [v], h => simp [lfsV] at h; exact ⟨v, rfl, h⟩
        | [], h => simp [lfsV] at h
        | _ :: _ :: _, h => simp [lfsV] at h
      split at h
      · rename_i hu
        injection h with h; subst h
        obtain ⟨u, rfl, hu1⟩ := one hx
        obtain ⟨v, rfl, hv1⟩ := one hy
        cases u <;> simp [lfV] at hu1
        cases v <;> simp [lfV] at hv1
        simp only [partV, hu, List.headD, eqVs, eqV, Bool.and_true]
        exact run_equalIn_bool w D t _ _ hu
      · rename_i k hu
        injection h with h; subst h
        obtain ⟨u, rfl, hu1⟩ := one hx
        obtain ⟨v, rfl, hv1⟩ := one hy
        cases u <;> simp [lfV] at hu1
        cases v <;> simp [lfV] at hv1
        subst hu1; subst hv1
        simp only [partV, hu, List.headD, eqVs, eqV, Bool.and_true]
        exact run_equalIn_int w D t _ _ _ _ hu
      · rename_i hu
        injection h with h; subst h
        obtain ⟨u, rfl, hu1⟩ := one hx
        obtain ⟨v, rfl, hv1⟩ := one hy
        cases u <;> simp [lfV] at hu1
        cases v <;> simp [lfV] at hv1
        simp only [partV, hu, List.headD, eqVs, eqV, Bool.and_true]
        rw [run_equalIn_string w D t _ _ hu, beq_toListBytes]
      · rename_i fs hu
        split at h
        · cases h
        · rename_i hst
          split at h
          · rename_i ls' hf
            split at h
            · injection h with h; subst h
              have hfo : P.underlying t = some (.struct (P.fieldsOf t)) := by simp [Program.fieldsOf, hu]
              have hfe : P.fieldsOf t = fs := by simp [Program.fieldsOf, hu]
              simp only [partV, hu]
              rw [run_equalIn_struct w D t _ _ hfo (by simpa using hst), hfe]
              have key : ∀ (fl : List Field) (off : Nat) (rs : List Lf), fieldsShape (eqShape P d) fl off = some rs → ∀ (xs ys : List Value), off + rs.length = xs.length → xs.length = ys.length → lfsV rs (xs.drop off) = true → lfsV rs (ys.drop off) = true →
                  (Op.eqFields D xs.toArray ys.toArray fl).run P w = .ok (eqVs (xs.drop off) (ys.drop off)) w := by
                intro fl
                induction fl with
                | nil =>
                  intro off rs hr xs ys h1 h2 h3 h4
                  simp [fieldsShape] at hr; subst hr
                  have e1 : xs.drop off = [] := List.drop_eq_nil_of_le (by simp at h1; omega)
                  have e2 : ys.drop off = [] := List.drop_eq_nil_of_le (by simp at h1; omega)
                  rw [e1, e2]; simp [Op.eqFields, eqVs]
                | cons f fl ihf =>
                  intro off rs hr xs ys h1 h2 h3 h4
                  simp only [fieldsShape] at hr
                  split at hr
                  · cases hr
                  · rename_i hcond
                    have hnm : f.name ≠ "_" := fun e => hcond (.inl e)
                    have hoff : f.offset = off := Decidable.not_not.1 fun e => hcond (.inr e)
                    split at hr
                    · rename_i ls hsf
                      split at hr
                      · rename_i rs' hrs
                        injection hr with hr; subst hr
                        rw [List.length_append] at h1
                        obtain ⟨a1, a2⟩ := lfsV_append h3
                        obtain ⟨b1, b2⟩ := lfsV_append h4
                        rw [List.drop_drop] at a2 b2
                        simp only [Op.eqFields, if_pos hnm, Sem.run_bind, hoff]
                        rw [run_part_shape hsf xs.toArray off (by simp; omega) w]
                        simp only [Result.andThen_ok]
                        rw [run_part_shape hsf ys.toArray off (by simp; omega) w]
                        simp only [Result.andThen_ok]
                        rw [ih D f.type ls hsf (by omega) _ _ a1 b1 w]
                        simp only [Result.andThen_ok, Sem.run_ite]
                        have ex : eqVs (xs.drop off) (ys.drop off) = (eqVs ((xs.drop off).take ls.length) ((ys.drop off).take ls.length) && eqVs (xs.drop (off + ls.length)) (ys.drop (off + ls.length))) := by
                          conv => lhs; rw [← List.take_append_drop ls.length (xs.drop off), ← List.take_append_drop ls.length (ys.drop off)]
                          rw [eqVs_append (by simp; omega), List.drop_drop, List.drop_drop]
                        rw [ex]
                        cases hb : eqVs ((xs.drop off).take ls.length) ((ys.drop off).take ls.length) with
                        | false => simp
                        | true =>
                          simp only [Bool.not_true, Bool.false_eq_true, if_false, Bool.true_and]
                          exact ihf (off + ls.length) rs' hrs xs ys (by omega) h2 a2 b2
                      · cases hr
                    · cases hr
              have hxl := lfsV_len hx
              have hyl := lfsV_len hy
              have := key fs.toList 0 ls' hf xs ys (by omega) (by omega) (by simpa using hx) (by simpa using hy)
              simpa using this
            · cases h
          · cases h
      · cases h
def eqTyOk (P : Program) (t : TypeId) (ls : List Lf) : Bool := decide (eqShape P 30 t = some ls) && !P.eqGuardType P.depth t && (match P.underlying t with | some .bool => decide (ls = [.bool]) | some (.struct _) => decide (ls ≠ [.bool]) | _ => false)
theorem lfs_of_rd {I : Imm} : ∀ {ls : List Lf} {vs : List Value} {ds : List D}, vs.length = ds.length → (∀ (i : Nat) v d, vs[i]? = some v → ds[i]? = some d → Rd I v d) → lfsOk ls ds = true → lfsV ls vs = true
  | [], [], [], _, _, _ => rfl
  | x :: ls, v :: vs, d :: ds, hl, hr, h => by
    simp only [lfsOk, Bool.and_eq_true] at h
    simp only [lfsV, Bool.and_eq_true]
    refine ⟨?_, lfs_of_rd (by simpa using hl) (fun i u e hu he => hr (i + 1) u e (by simpa using hu) (by simpa using he)) h.2⟩
    have h0 := hr 0 v d rfl rfl
    cases h0 <;> cases x <;> simp [lfOk] at h <;> simp [lfV, h]
  | [], _ :: _, [], hl, _, _ => by simp at hl
  | [], [], _ :: _, hl, _, _ => by simp at hl
  | [], _ :: _, _ :: _, _, _, h => by simp [lfsOk] at h
  | _ :: _, [], _ :: _, hl, _, _ => by simp at hl
  | _ :: _, _ :: _, [], hl, _, _ => by simp at hl
  | _ :: _, [], [], _, _, h => by simp [lfsOk] at h
theorem eq_of_rd {I : Imm} : ∀ {ls : List Lf} {vs us : List Value} {ds es : List D}, vs.length = ds.length → us.length = es.length → (∀ (i : Nat) v d, vs[i]? = some v → ds[i]? = some d → Rd I v d) → (∀ (i : Nat) v d, us[i]? = some v → es[i]? = some d → Rd I v d) →
    lfsOk ls ds = true → lfsOk ls es = true → eqVs vs us = beqDs ds es
  | [], [], [], [], [], _, _, _, _, _, _ => rfl
  | x :: ls, v :: vs, u :: us, d :: ds, e :: es, h1, h2, r1, r2, k1, k2 => by
    simp only [lfsOk, Bool.and_eq_true] at k1 k2
    simp only [eqVs, beqDs]
    rw [eq_of_rd (ls := ls) (by simpa using h1) (by simpa using h2) (fun i a b ha hb => r1 (i + 1) a b (by simpa using ha) (by simpa using hb)) (fun i a b ha hb => r2 (i + 1) a b (by simpa using ha) (by simpa using hb)) k1.2 k2.2]
    congr 1
    have a0 := r1 0 v d rfl rfl
    have b0 := r2 0 u e rfl rfl
    cases a0 <;> cases x <;> simp [lfOk] at k1 <;> cases b0 <;> simp [lfOk] at k2 <;> rfl
  | [], v :: vs, _, [], _, h, _, _, _, _, _ => by simp at h
  | [], [], _, d :: ds, _, h, _, _, _, _, _ => by simp at h
  | [], v :: vs, _, d :: ds, _, _, _, _, _, h, _ => by simp [lfsOk] at h
  | [], [], u :: us, [], [], _, h, _, _, _, _ => by simp at h
  | [], [], [], [], e :: es, _, h, _, _, _, _ => by simp at h
  | [], [], u :: us, [], e :: es, _, _, _, _, _, h => by simp [lfsOk] at h
  | x :: ls, [], _, d :: ds, _, h, _, _, _, _, _ => by simp at h
  | x :: ls, v :: vs, _, [], _, h, _, _, _, _, _ => by simp at h
  | x :: ls, [], _, [], _, _, _, _, _, h, _ => by simp [lfsOk] at h
  | x :: ls, v :: vs, [], d :: ds, e :: es, _, h, _, _, _, _ => by simp at h
  | x :: ls, v :: vs, u :: us, d :: ds, [], _, h, _, _, _, _ => by simp at h
  | x :: ls, v :: vs, [], d :: ds, [], _, _, _, _, _, h => by simp [lfsOk] at h
theorem EqOk.of_tab {tab : List (Nat × List Lf)} (h : tab.all (fun p => eqTyOk P p.1 p.2) = true) : EqOk P (fun t => (tab.find? fun p => p.1 == t).map (·.2)) := by
  intro t ls ht op x y I u v a b w ha hb hab hop
  have hsh : eqTyOk P t ls = true := by
    cases hf : tab.find? (fun p => p.1 == t) with
    | none => simp [hf] at ht
    | some p =>
      simp [hf] at ht
      have h1 := List.find?_some hf
      have h2 := List.all_eq_true.1 h p (List.mem_of_find?_eq_some hf)
      simp at h1; subst h1; subst ht; exact h2
  simp only [eqTyOk, Bool.and_eq_true, decide_eq_true_eq, Bool.not_eq_true'] at hsh
  obtain ⟨⟨h1, h2⟩, h3⟩ := hsh
  rcases hab with ⟨p, q, rfl, rfl, rfl⟩ | ⟨xs, ys, rfl, rfl, hne, hx, hy⟩
  · cases ha; cases hb
    have hu : P.underlying t = some .bool := by
      split at h3
      · assumption
      · simp at h3
      · cases h3
    have hr := run_equal_shape 30 10000 t _ h1 (by omega) [.bool p] [.bool q] rfl rfl w
    have e1 : ∀ p, partV P t [.bool p] = .bool p := fun p => by unfold partV; rw [hu]; rfl
    rw [e1, e1] at hr
    simp only [Sem.run_bind, eqGuard_at_bool, Sem.run_pure, Result.andThen_ok]
    rcases hop with rfl | rfl <;> simp [binOp, Op.equal, Op.maxDepth, hr, eqVs, eqV, beqD]
  · have hst : ∃ fs, P.underlying t = some (.struct fs) := by
      split at h3
      · exact absurd (of_decide_eq_true h3) hne
      · rename_i fs hu; exact ⟨fs, hu⟩
      · cases h3
    obtain ⟨fs, hu⟩ := hst
    generalize hua : D.agg xs = da at ha
    generalize hub : D.agg ys = db at hb
    cases ha <;> first | (cases hua; done) | skip
    rename_i cs ds p1 p2 p3
    injection hua with hua; subst hua
    cases hb <;> first | (cases hub; done) | skip
    rename_i cs' ds' q1 q2 q3
    injection hub with hub; subst hub
    have r1 : lfsV ls cs.toList = true := lfs_of_rd (by simpa using p1) (fun i v d hv hd => p3 i v d (by simpa using hv) hd) hx
    have r2 : lfsV ls cs'.toList = true := lfs_of_rd (by simpa using q1) (fun i v d hv hd => q3 i v d (by simpa using hv) hd) hy
    have hr := run_equal_shape 30 10000 t _ h1 (by omega) cs.toList cs'.toList r1 r2 w
    have e1 : ∀ cs : Array Value, partV P t cs.toList = .agg cs := fun cs => by unfold partV; rw [hu]
    rw [e1, e1, eq_of_rd (by simpa using p1) (by simpa using q1) (fun i v d hv hd => p3 i v d (by simpa using hv) hd) (fun i v d hv hd => q3 i v d (by simpa using hv) hd) hx hy] at hr
    simp only [Sem.run_bind, run_eqGuard_agg w op t x y cs cs' h2, Result.andThen_ok]
    rcases hop with rfl | rfl
    · rw [run_eql_struct w]; simp [hr, beqD]
    · rw [run_neq_struct w]; simp [hr, beqD]
end
end Go.Eva
namespace Go.Eva
open Go Go.RowKit
variable [Drw]
theorem evalOp_congr {V : Env} {ρ ρ' : Operand → T} {l : List AO} {nid : Nat} {o : Oper} (h : ∀ x ∈ o.op.operands, ρ x = ρ' x) : evalOp V ρ l nid o = evalOp V ρ' l nid o := by
  obtain ⟨dst, op, ty, pos, aft, g⟩ := o
  cases op with
  | build t parts =>
    have : parts.toList.map (fun p => (p.1, ρ p.2)) = parts.toList.map (fun p => (p.1, ρ' p.2)) := List.map_congr_left fun p hp => by
      rw [h p.2 (by simp only [Op.operands]; simp; exact ⟨p.1, by simpa using hp⟩)]
    simp only [evalOp, this]
  | buildSlice t len parts =>
    have : parts.toList.map (fun p => unD1 (ρ p.2)) = parts.toList.map (fun p => unD1 (ρ' p.2)) := List.map_congr_left fun p hp => by
      rw [h p.2 (by simp only [Op.operands]; simp; exact ⟨p.1, by simpa using hp⟩)]
    have h2 : parts.toList.mapM (fun p => unD1 (ρ p.2)) = parts.toList.mapM (fun p => unD1 (ρ' p.2)) := by
      have e : ∀ (f : Nat × Operand → Option D) (ps : List (Nat × Operand)), ps.mapM f = (ps.map f).mapM id := fun f ps => by
        induction ps with
        | nil => rfl
        | cons p ps ih => simp only [List.mapM_cons, List.map_cons, ih, id]
      rw [e, e, this]
    have h3 : parts.toList.map (fun p => ρ p.2) = parts.toList.map (fun p => ρ' p.2) := List.map_congr_left fun p hp => by
      rw [h p.2 (by simp only [Op.operands]; simp; exact ⟨p.1, by simpa using hp⟩)]
    simp only [evalOp, h2, h3]
  | slice t x lo hi mx =>
    have hx := h x (by simp [Op.operands])
    have hlo : lo.map ρ = lo.map ρ' := by cases lo with | none => rfl | some a => simp; exact h a (by simp [Op.operands])
    have hhi : hi.map ρ = hi.map ρ' := by cases hi with | none => rfl | some a => simp; exact h a (by simp [Op.operands])
    cases mx <;> simp only [evalOp, hx, hlo, hhi]
  | call c =>
    have hargs : c.args.toList.map ρ = c.args.toList.map ρ' := List.map_congr_left fun x hx => h x (by simp [Op.operands, Call.operands]; right; simpa using hx)
    have hmem : ∀ x ∈ c.args.toList, ρ x = ρ' x := fun x hx => h x (by simp [Op.operands, Call.operands]; right; simpa using hx)
    obtain ⟨callee, args, argTypes⟩ := c
    cases callee with
    | value f =>
      have hf := h f (by simp [Op.operands, Call.operands])
      simp only [evalOp, hf, hargs]
    | invoke r n => simp only [evalOp]
    | builtin b =>
      cases b <;> simp only [evalOp] <;> first | rfl | (simp only at hargs hmem; (try rw [hargs]); done) | (simp only at hargs hmem; split <;> first | rfl | (rename_i ha _; simp only [ha, List.mem_cons, List.mem_singleton, List.not_mem_nil, or_false] at hmem; first | rw [hmem _ rfl] | rw [hmem _ (.inl rfl), hmem _ (.inr rfl)]))
  | makeMap t r => cases r <;> simp only [evalOp]
  | makeFunc fn first caps =>
    have hcaps : caps.toList.map ρ = caps.toList.map ρ' := List.map_congr_left fun x hx => h x (by simp [Op.operands]; right; simpa using hx)
    cases fn <;> simp only [evalOp]
    rw [hcaps]
  | _ => simp only [evalOp] <;> first | rfl | (simp only [Op.operands] at h; simp [h])
def isReg (o : Oper) : Bool := match o.op with
  | .move _ | .assign _ | .pick .. | .field .. | .binOp .. | .unOp .. | .extract .. | .slice .. => true
  | _ => false
theorem evalOp_reg {V : Env} {ρ : Operand → T} {l l' : List AO} {nid nid' : Nat} {o : Oper} (h : isReg o = true) (heff : (evalOp V ρ l nid o).eff = .none) (hob : (evalOp V ρ l nid o).ob) : evalOp V ρ l' nid' o = evalOp V ρ l nid o := by
  obtain ⟨dst, op, ty, pos, aft, g⟩ := o
  cases op <;> simp [isReg] at h
  case slice t x lo hi mx =>
    cases mx with
    | some m => simp only [evalOp, R.bad] at hob
    | none =>
      simp only [evalOp] at heff hob ⊢
      split at hob
      · rfl
      · rename_i hs hx
        exfalso
        simp only [hs, hx] at heff
        split at hob
        · rename_i hsub
          rw [if_pos hsub] at heff
          rcases subO_eff (E := V.E) (l := l) (lo := lo.map ρ) (hi := hi.map ρ) with h | h
          · rw [h] at heff; cases heff
          · rw [h] at hob; exact hob.elim
        rename_i hsub
        rw [if_neg hsub] at heff
        split at hob
        · split at hob
          · simp_all
          · exact hob.elim
        · exact hob.elim
      · exact hob.elim
  all_goals simp only [evalOp]
theorem evalOp_reg_eff {V : Env} {ρ : Operand → T} {l : List AO} {nid : Nat} {o : Oper} (h : isReg o = true) (b : AO) : (evalOp V ρ l nid o).eff ≠ .new b := by
  obtain ⟨dst, op, ty, pos, aft, g⟩ := o
  cases op <;> simp [isReg] at h <;> simp only [evalOp, R.ok]
  · simp
  · simp
  · unfold pickT; simp only
    repeat' split
    all_goals simp [R.bad]
  · unfold ofD; repeat' split
    all_goals simp [R.bad]
  · unfold ofD; repeat' split
    all_goals simp [R.bad]
  · rename_i mx
    cases mx
    · simp only
      repeat' split
      all_goals first | simp [R.bad]; done | (intro hc; rcases subO_eff (E := V.E) (l := l) with h | h <;> rw [h] at hc <;> cases hc; done) | (unfold sliceT; repeat' split) 
      all_goals simp [R.bad, R.ok]
    · simp [R.bad]
  · unfold fieldV; repeat' split
    all_goals simp [R.bad, R.ok]
  · repeat' split
    all_goals simp [R.bad]
def VarsEq (l l' : List AO) : Prop := ∀ id, isVar l id = true → l'[id]? = l[id]?
theorem VarsEq.refl (l : List AO) : VarsEq l l := fun _ _ => rfl
theorem VarsEq.trans {l l' l'' : List AO} (h : VarsEq l l') (k : VarsEq l' l'') : VarsEq l l'' := fun id hid => (k id (by have := h id hid; unfold isVar at hid ⊢; rw [this]; exact hid)).trans (h id hid)
theorem VarsEq.append (l r : List AO) : VarsEq l (l ++ r) := fun _ hid => List.getElem?_append_left (isVar_lt hid)
theorem VarsEq.set {l : List AO} {id : Nat} (o : AO) (h : isVar l id = false) : VarsEq l (l.set id o) := fun k hk => by
  rw [List.getElem?_set]
  by_cases e : id = k
  · subst e; rw [h] at hk; cases hk
  · simp [e]
theorem toD1_vars {l l' : List AO} {t : T} {d : D} (h : toD1 l t = some (d, l')) : VarsEq l l' := by
  cases t <;> simp only [toD1] at h
  case d x => simp at h; rw [← h.2]; exact .refl _
  case nils s => simp at h; rw [← h.2]; exact .refl _
  case row id =>
    split at h
    · simp at h; rw [← h.2]; exact .refl _
    · rename_i hl; simp at h; rw [← h.2]; exact .set _ (by unfold isVar; rw [hl]; rfl)
    · cases h
  case map id =>
    split at h
    · simp at h; rw [← h.2]; exact .refl _
    · rename_i hl; simp at h; rw [← h.2]; exact .set _ (by unfold isVar; rw [hl]; rfl)
    · cases h
  all_goals cases h
theorem argsD1_vars : ∀ (ts : List T) {l l' : List AO} {ds : List D}, argsD1 l ts = some (ds, l') → VarsEq l l'
  | [], l, l', ds, h => by simp [argsD1] at h; rw [← h.2]; exact .refl _
  | t :: ts, l, l', ds, h => by
    simp only [argsD1] at h
    cases h1 : toD1 l t with
    | none => simp [h1] at h
    | some p =>
      obtain ⟨x, l1⟩ := p
      simp only [h1] at h
      cases h2 : argsD1 l1 ts with
      | none => simp [h2] at h
      | some q =>
        obtain ⟨xs, l2⟩ := q
        simp only [h2, Option.some.injEq, Prod.mk.injEq] at h
        rw [← h.2]
        exact (toD1_vars h1).trans (argsD1_vars ts h2)
theorem toD_vars {l l' : List AO} {t : T} {d : D} (h : toD l t = some (d, l')) : VarsEq l l' := by
  by_cases ha : ∃ ts, t = .agg ts
  · obtain ⟨ts, rfl⟩ := ha
    obtain ⟨ds, rfl, hds⟩ := toD_agg h
    exact argsD1_vars ts hds
  · rw [toD_one fun ts h => ha ⟨ts, h⟩] at h
    exact toD1_vars h
theorem argsD_vars : ∀ (ts : List T) {l l' : List AO} {ds : List D}, argsD l ts = some (ds, l') → VarsEq l l'
  | [], l, l', ds, h => by simp [argsD] at h; rw [← h.2]; exact .refl _
  | t :: ts, l, l', ds, h => by
    simp only [argsD] at h
    cases h1 : toD l t with
    | none => simp [h1] at h
    | some p =>
      obtain ⟨x, l1⟩ := p
      simp only [h1] at h
      cases h2 : argsD l1 ts with
      | none => simp [h2] at h
      | some q =>
        obtain ⟨xs, l2⟩ := q
        simp only [h2, Option.some.injEq, Prod.mk.injEq] at h
        rw [← h.2]
        exact (toD_vars h1).trans (argsD_vars ts h2)
theorem appendT_vars {E : TEnv} {t : TypeId} {l : List AO} {nid : Nat} {s x : T} : (∀ l', (appendT E t l nid s x).eff = .upd l' → VarsEq l l') ∧ ∀ a, (appendT E t l nid s x).eff ≠ .new a := by
  unfold appendT
  split; rotate_left
  · exact ⟨by simp [R.bad], by simp [R.bad]⟩
  split; rotate_left
  · exact ⟨by simp [R.bad], by simp [R.bad]⟩
  split; rotate_left
  · exact ⟨by simp [R.bad], by simp [R.bad]⟩
  rename_i hx
  have hv := toD_vars hx
  split; rotate_left
  · exact ⟨by simp [R.bad], by simp [R.bad]⟩
  split
  · refine ⟨fun l' h => ?_, by simp⟩
    simp at h; rw [← h]; exact hv.trans (.append _ _)
  · split; rotate_left
    · exact ⟨by simp [R.bad], by simp [R.bad]⟩
    rename_i hl
    split; rotate_left
    · exact ⟨by simp [R.bad], by simp [R.bad]⟩
    refine ⟨fun l' h => ?_, by simp⟩
    simp at h; rw [← h]
    exact (hv.trans (.set _ (by unfold isVar; rw [hl]; rfl))).trans (.append _ _)
  · exact ⟨by simp [R.bad], by simp [R.bad]⟩
def keepsV (o : Oper) : Bool := isReg o || match o.op with
  | .buildSlice _ n _ => n != 0
  | .call c => (match c.callee with | .builtin .append => true | _ => false)
  | .load .. => true
  | _ => false
theorem loadEl_eff {i : TI} {size : Nat} {els : List D} {k off : Nat} : (loadEl i size els k off).eff = .none := by
  unfold loadEl; repeat' split
  all_goals simp [R.ok, R.bad]
theorem loadAs_eff {E : TEnv} {t : TypeId} {l : List AO} {a : T} : (loadAs E t l a).eff = .none := by
  unfold loadAs; repeat' split
  all_goals first | exact loadEl_eff | simp [R.ok, R.bad]
theorem keepsV_eff {V : Env} {ρ : Operand → T} {l : List AO} {nid : Nat} {o : Oper} (h : keepsV o = true) : (∀ l', (evalOp V ρ l nid o).eff = .upd l' → VarsEq l l') ∧ ∀ a, (evalOp V ρ l nid o).eff ≠ .new a := by
  obtain ⟨dst, op, ty, pos, aft, g⟩ := o
  have nn : ∀ {r : R}, r.eff = .none → (∀ l', r.eff = .upd l' → VarsEq l l') ∧ ∀ a, r.eff ≠ .new a := fun e => ⟨by rw [e]; simp, by rw [e]; simp⟩
  cases op <;> simp [keepsV, isReg] at h <;> simp only [evalOp]
  case call c =>
    obtain ⟨cal, args, ats⟩ := c
    cases cal <;> simp at h
    rename_i b
    cases b <;> simp at h
    simp only
    split
    · split
      · exact appendT_vars
      · exact nn rfl
    · exact nn rfl
  case slice t x lo hi mx =>
    cases mx with
    | some m => exact nn rfl
    | none =>
      simp only
      split
      · split
        · refine nn ?_
          unfold sliceT; repeat' split
          all_goals simp [R.ok, R.bad]
        · exact nn rfl
      · split
        · rcases subO_eff (E := V.E) (l := l) (lo := lo.map ρ) (hi := hi.map ρ) with h | h
          · refine ⟨fun l' h' => ?_, by rw [h]; simp⟩
            rw [h] at h'; injection h' with h'; subst h'; exact .refl _
          · rw [h]; exact nn rfl
        split
        · rename_i hx
          split
          · refine ⟨fun l' h => ?_, by simp⟩
            simp at h; rw [← h]; exact toD_vars hx
          · exact nn rfl
        · exact nn rfl
      · exact nn rfl
  case buildSlice t n parts =>
    simp only [if_neg h]
    split
    · split
      · split
        · split <;> exact nn rfl
        · split
          · rename_i hd
            split
            · refine ⟨fun l' h => ?_, by simp⟩
              simp at h; rw [← h]; exact argsD_vars _ hd
            · exact nn rfl
          · exact nn rfl
      · exact nn rfl
    · exact nn rfl
  case pick c a b =>
    refine nn ?_
    unfold pickT; simp only
    repeat' split
    all_goals simp [R.bad]
  all_goals refine nn ?_
  all_goals first
    | exact loadAs_eff
    | (unfold pickT; repeat' split) <;> simp [R.ok, R.bad]; done
    | (unfold ofD; repeat' split) <;> simp [R.ok, R.bad]; done
    | (unfold fieldV; repeat' split) <;> simp [R.ok, R.bad]; done
    | (repeat' split) <;> simp_all [R.ok, R.bad, ofD]; done
    | skip
def isFl (o : Oper) : Bool := isReg o || match o.op with
  | .buildSlice _ n _ => n != 0
  | .load .. => true
  | _ => false
def noRow (ρ : Operand → T) (o : Oper) : Bool := match o.op with
  | .load _ a => (match ρ a with | .rptr .. => false | _ => true)
  | _ => true
theorem evalOp_fl {V : Env} {ρ : Operand → T} {l l' : List AO} {nid nid' : Nat} {o : Oper} (h : isFl o = true) (hr : noRow ρ o = true) (hl : VarsEq l l') (heff : (evalOp V ρ l nid o).eff = .none) (hob : (evalOp V ρ l nid o).ob) : evalOp V ρ l' nid' o = evalOp V ρ l nid o := by
  by_cases hreg : isReg o = true
  · exact evalOp_reg hreg heff hob
  obtain ⟨dst, op, ty, pos, aft, g⟩ := o
  unfold isFl at h
  simp only [hreg] at h
  cases op <;> simp at h
  case buildSlice t n parts =>
    simp only [evalOp, if_neg h] at heff hob ⊢
    cases hE : V.E t with
    | none => rfl
    | some i =>
      obtain ⟨a, b, c, d⟩ := i
      cases d <;> try rfl
      case slice e =>
        simp only [hE] at heff hob ⊢
        by_cases he : (V.E e).isSome = true ∧ 0 < sizeE V.E e
        · simp only [if_pos he] at heff hob ⊢
          cases hm : parts.toList.mapM fun p => unD1 (ρ p.2) with
          | some ds => rfl
          | none =>
            exfalso
            simp only [hm] at heff hob
            cases hd : argsD l (parts.toList.map fun p => ρ p.2) with
            | none => simp only [hd] at hob; exact hob.elim
            | some q =>
              obtain ⟨ds, l1⟩ := q
              simp only [hd] at heff hob
              split at hob
              · rename_i hc; rw [if_pos hc] at heff; cases heff
              · exact hob.elim
        · rw [if_neg he, if_neg he]
  case load t a =>
    simp only [evalOp] at hob ⊢
    simp only [noRow] at hr
    generalize ρ a = x at *
    cases x <;> try rfl
    case d x => cases x <;> rfl
    case ptr id off =>
      simp only [unbox, loadAs] at hob ⊢
      have : l'[id]? = l[id]? := by
        refine hl id ?_
        unfold isVar
        split at hob
        · rename_i hx; rw [hx]; rfl
        · exact hob.elim
      rw [this]
    case rptr => cases hr
end Go.Eva
namespace Go.Eva
open Go Go.RowKit
variable [Drw] [Rnd]
def waitsT (ops : List Oper) : Nat → Oper → Nat → Bool
  | 0, o, j => (waits o).contains j
  | n + 1, o, j => (waits o).contains j || (waits o).any fun k => match ops[k]? with | some q => waitsT ops n q j | none => false
def tailOk2 (ops : List Oper) (n1 : Nat) (F : List Nat) : Bool := (List.range ops.length).all fun i => decide (i < n1) || match ops[i]? with | some o => (List.range i).all (fun j => F.contains j || waitsT ops 8 o j) | none => true
def Closed (ops : List Oper) (listed : Array Bool) : Prop := ∀ (i : Nat) o, ops[i]? = some o → listed.getD i false = true → ∀ j ∈ waits o, listed.getD j false = true
theorem waitsT_listed {ops : List Oper} {listed : Array Bool} (hc : Closed ops listed) : ∀ (n : Nat) (o : Oper) (j : Nat), (∀ k ∈ waits o, listed.getD k false = true) → waitsT ops n o j = true → listed.getD j false = true
  | 0, o, j, hw, h => hw j (List.contains_iff_mem.1 h)
  | n + 1, o, j, hw, h => by
    unfold waitsT at h
    rw [Bool.or_eq_true] at h
    rcases h with h | h
    · exact hw j (List.contains_iff_mem.1 h)
    · obtain ⟨k, hk, h2⟩ := List.any_eq_true.1 h
      cases hq : ops[k]? with
      | none => rw [hq] at h2; cases h2
      | some q =>
        rw [hq] at h2
        exact waitsT_listed hc n q j (hc k q hq (hw k hk)) h2
theorem Closed.step {ops : List Oper} {listed L' : Array Bool} (hc : Closed ops listed) {i : Nat} {o : Oper} (ho : ops[i]? = some o) (hw : ∀ j ∈ waits o, listed.getD j false = true) (hL : ∀ k, L'.getD k false = if k = i then true else listed.getD k false) : Closed ops L' := by
  intro k q hq hk j hj
  rw [hL] at hk ⊢
  split
  · rfl
  · by_cases hki : k = i
    · subst hki; rw [ho] at hq; cases hq; exact hw j hj
    · rw [if_neg hki] at hk; exact hc k q hq hk j hj
def floatOk0 (ops : List Oper) (n1 : Nat) (F : List Nat) : Bool := F.all fun f => decide (f < n1) && match ops[f]? with
  | some o => o.guard.isNone && (List.range ops.length).all fun i => decide (i < n1) || match ops[i]? with
    | some q => ((waits q).contains f || match q.dst with | some d => !(readsOf ops o).contains d && o.dst != some d | none => true) && (match o.dst with | some d => !(readsOf ops q).contains d || (waits q).contains f | none => true)
    | none => true
  | none => false
def floatOk (ops : List Oper) (n1 : Nat) (F : List Nat) : Bool := (F.all fun f => match ops[f]? with | some o => isReg o | none => true) && floatOk0 ops n1 F
def Indep (V : Env) (B : Bool) (l0 : List AO) (o : Oper) (x : Rec) : Prop := x.new = none ∧ (x.pc = [] → x.ob → ∀ l', (B = true ∨ VarsEq l0 l') → evalOp V (fun y => (strip x.pc (evT x.tm y)).1) l' 0 o = ⟨x.t, .none, x.ob⟩)
section
variable {P : Program} {V : Env} {w0 : World} {I0 : Imm} {n : Nat} {md : Way} {ops : List Oper} {Q : Exit → Act → World → Prop} {K : St → Prop}
theorem tail2uat {n1 : Nat} {F : List Nat} (h : tailOk2 ops n1 F = true) {i : Nat} {o : Oper} (ho : ops[i]? = some o) (hi : n1 ≤ i) : ∀ j, j < i → j ∉ F → waitsT ops 8 o j = true := by
  intro j hj hF
  have := List.all_eq_true.1 h i (List.mem_range.2 (List.getElem?_eq_some_iff.1 ho).1)
  simp only [ho, Bool.or_eq_true, decide_eq_true_eq, List.all_eq_true, List.mem_range, List.contains_iff_mem] at this
  rcases this with h | h
  · omega
  · exact (h j hj).resolve_left hF
theorem float_at {n1 : Nat} {F : List Nat} (h : floatOk0 ops n1 F = true) {f : Nat} (hf : f ∈ F) : f < n1 ∧ ∀ o, ops[f]? = some o → o.guard = none ∧
    ∀ (i : Nat) q, n1 ≤ i → ops[i]? = some q → (f ∈ waits q ∨ ∀ d, q.dst = some d → d ∉ readsOf ops o ∧ o.dst ≠ some d) ∧ (∀ d, o.dst = some d → d ∈ readsOf ops q → f ∈ waits q) := by
  have := List.all_eq_true.1 h f hf
  simp only [Bool.and_eq_true, decide_eq_true_eq] at this
  obtain ⟨h1, h2⟩ := this
  refine ⟨h1, fun o ho => ?_⟩
  simp only [ho, Bool.and_eq_true, Option.isNone_iff_eq_none] at h2
  obtain ⟨h4, h5⟩ := h2
  refine ⟨h4, fun i q hi hq => ?_⟩
  have := List.all_eq_true.1 h5 i (List.mem_range.2 (List.getElem?_eq_some_iff.1 hq).1)
  simp only [hq] at this
  rw [Bool.or_eq_true, decide_eq_true_eq, Bool.and_eq_true] at this
  have this := this.resolve_left (by omega)
  obtain ⟨h6, h7⟩ := this
  refine ⟨?_, fun d hd hr => ?_⟩
  · rw [Bool.or_eq_true] at h6
    refine h6.imp (fun h => List.contains_iff_mem.1 h) fun h6 d hd => ?_
    simp only [hd, Bool.and_eq_true, Bool.not_eq_true', bne_iff_ne, ne_eq] at h6
    exact ⟨fun hm => (by have := List.contains_iff_mem.2 hm; rw [h6.1] at this; cases this), h6.2⟩
  · simp only [hd, Bool.or_eq_true, Bool.not_eq_true', List.contains_iff_mem] at h7
    rcases h7 with h7 | h7
    · have := List.contains_iff_mem.2 hr; rw [h7] at this; cases this
    · exact h7
def pend (ops : List Oper) (F : List Nat) (listed : Array Bool) : List Nat := (F.filter fun f => !listed.getD f false).filterMap fun f => (ops[f]?).bind (·.dst)
theorem mem_pend {F : List Nat} {listed : Array Bool} {k : Nat} : k ∈ pend ops F listed ↔ ∃ f o, f ∈ F ∧ listed.getD f false = false ∧ ops[f]? = some o ∧ o.dst = some k := by
  unfold pend
  simp only [List.mem_filterMap, List.mem_filter, Bool.not_eq_true']
  constructor
  · rintro ⟨f, ⟨h1, h2⟩, h3⟩
    cases ho : ops[f]? with
    | none => simp [ho] at h3
    | some o => simp [ho] at h3; exact ⟨f, o, h1, h2, ho, h3⟩
  · rintro ⟨f, o, h1, h2, h3, h4⟩
    exact ⟨f, ⟨h1, h2⟩, by simp [h3, h4]⟩
structure TInv (w0 : World) (I0 : Imm) (n : Nat) (B : Bool) (l0 : List AO) (ops : List Oper) (F : List Nat) (rs : List Rec) (s : St) (listed : Array Bool) (a : Act) (w : World) : Prop where
  size : a.tmps.size = n
  rel : ∃ I m, WRel w0 I0 w I m s.l ∧ Dfs w0.heap.size I a.defers ∧ ∀ k, k ∉ pend ops F listed → RdT I m s.l (a.tmps.getD k undef) (get s.t k)
  fl : ∀ (f : Nat) o x, f ∈ F → listed.getD f false = false → ops[f]? = some o → rs[f]? = some x → (∀ t ∈ readsOf ops o, get s.t t = get x.tm t) ∧ ∀ d, o.dst = some d → get s.t d = x.out
  vars : B = true ∨ VarsEq l0 s.l
theorem get_undefs (s : Tm) (k : Nat) : ∀ (ds : List Nat), get (ds.map (fun d => (d, T.undef)) ++ s) k = if k ∈ ds then .undef else get s k
  | [] => by simp
  | d :: ds => by
    simp only [List.map_cons, List.cons_append, get, List.mem_cons]
    rw [get_undefs s k ds]
    by_cases h : d = k
    · subst h; simp
    · rw [if_neg h]; have : k ≠ d := fun e => h e.symm
      simp [this]
theorem evT_agree {s s' : Tm} {x : Operand} (h : ∀ t, x = .tmp t → get s t = get s' t) : evT s x = evT s' x := by
  cases x with
  | tmp t => exact h t rfl
  | _ => rfl
theorem guardPc_agree {s s' : Tm} {o : Oper} (h : ∀ t ∈ readsOf ops o, get s t = get s' t) : guardPc ops s o.guard = guardPc ops s' o.guard := by
  cases hg : o.guard with
  | none => rfl
  | some jb =>
    obtain ⟨j, b⟩ := jb
    simp only [guardPc]
    cases hd : (ops[j]?).bind (·.dst) with
    | none => rfl
    | some d =>
      simp only
      rw [h d (List.mem_append_right _ (by rw [hg]; simp only; rw [hd]; simp))]
theorem opRes_agree {V : Env} {pc : PC} {s s' : St} {o : Oper} (hl : s.l = s'.l) (h : ∀ t ∈ readsOf ops o, get s.t t = get s'.t t) : opRes V pc s o = opRes V pc s' o := by
  have hx : ∀ x ∈ o.op.operands, evT s.t x = evT s'.t x := fun x hx => evT_agree fun t ht => h t (List.mem_append_left _ (List.mem_filterMap.2 ⟨x, by simpa using hx, by rw [ht]⟩))
  cases pc with
  | nil => simp only [opRes, hl]; exact evalOp_congr hx
  | cons y pc =>
    simp only [opRes, hl]
    have e1 := evalOp_congr (V := V) (ρ := fun x => (strip (y :: pc) (evT s.t x)).1) (ρ' := fun x => (strip (y :: pc) (evT s'.t x)).1) (l := s'.l) (nid := s'.l.length) (o := o) (fun x hx' => by simp only [hx x hx'])
    have e2 : o.op.operands.toList.map (fun x => (strip (y :: pc) (evT s.t x)).2) = o.op.operands.toList.map (fun x => (strip (y :: pc) (evT s'.t x)).2) := List.map_congr_left fun x hx' => by rw [hx x (by simpa using hx')]
    rw [e1, e2]
theorem after_form {s s' : St} {dst : Option Nat} {pc : PC} {t : T} {eff : Eff} (h : after s dst pc ⟨t, eff, True⟩ = some s') : ∃ u l', s' = ⟨putT s.t dst u, l'⟩ ∧ ∀ st : St, st.l = s.l → after st dst pc ⟨t, eff, True⟩ = some ⟨putT st.t dst u, l'⟩ := by
  unfold after at h
  simp only at h
  split at h
  · injection h with h; exact ⟨_, _, h.symm, fun st e => by unfold after; simp only [e]⟩
  · injection h with h; exact ⟨_, _, h.symm, fun st e => by unfold after; simp only [e]⟩
  · injection h with h; exact ⟨_, _, h.symm, fun st e => by unfold after; simp only⟩
  · rename_i hpc
    injection h with h
    cases pc with
    | nil => exact absurd rfl hpc
    | cons y r => exact ⟨_, _, h.symm, fun st e => by unfold after; simp only [e]⟩
  · cases h
theorem evalSeq_cons {md : Way} {o : Oper} {r : List Oper} {s st : St} {K : St → Prop} (h : evalSeq V n ops md (o :: r) s K) (hl : st.l = s.l) (ha : ∀ t ∈ readsOf ops o, get st.t t = get s.t t) :
    ∃ u l', evalSeq V n ops md [o] st (fun q => q = ⟨putT st.t o.dst u, l'⟩) ∧ evalSeq V n ops md r ⟨putT s.t o.dst u, l'⟩ K := by
  simp only [evalSeq] at h
  split at h
  · exact h.elim
  rename_i pc hg
  have hg' : guardPc ops st.t o.guard = some pc := (guardPc_agree ha).trans hg
  have hop : ∀ qc, opRes V qc st o = opRes V qc s o := fun qc => opRes_agree hl ha
  cases md with
  | none =>
    simp only at h
    obtain ⟨hob, hdst, h⟩ := h
    split at h
    · rename_i s' hs'
      obtain ⟨u, l', rfl, hs2⟩ := after_form hs'
      refine ⟨u, l', ?_, h⟩
      simp only [evalSeq, hg', hop]
      refine ⟨hob, hdst, ?_⟩
      rw [hs2 st hl]; first | done | rfl
    · exact h.elim
  | some sk =>
    simp only at h
    split at h
    · rename_i hsk
      obtain ⟨hno, hdst, h⟩ := h
      refine ⟨gone, s.l, ?_, h⟩
      simp only [evalSeq, hg', if_pos hsk]
      exact ⟨hno, hdst, by rw [hl]⟩
    · rename_i hsk
      obtain ⟨hyes, hob, hdst, h⟩ := h
      split at h
      · rename_i s' hs'
        obtain ⟨u, l', rfl, hs2⟩ := after_form hs'
        refine ⟨u, l', ?_, h⟩
        simp only [evalSeq, hg', if_neg hsk, hop]
        refine ⟨hyes, hob, hdst, ?_⟩
        rw [hs2 st hl]; first | done | rfl
      · exact h.elim
theorem after_vars {V : Env} {ρ : Operand → T} {s : St} {o : Oper} {pc : PC} {t : T} {eff : Eff} {t' : Tm} {l' : List AO} (h : keepsV o = true) (he : (evalOp V ρ s.l s.l.length o).eff = eff) (ha : after s o.dst pc ⟨t, eff, True⟩ = some ⟨t', l'⟩) : VarsEq s.l l' := by
  obtain ⟨k1, k2⟩ := keepsV_eff (V := V) (ρ := ρ) (l := s.l) (nid := s.l.length) h
  rw [he] at k1 k2
  unfold after at ha
  simp only at ha
  split at ha
  · injection ha with ha; injection ha with _ ha; rw [← ha]; exact .refl _
  · exact absurd rfl (k2 _)
  · injection ha with ha; injection ha with _ ha; rw [← ha]; exact k1 _ rfl
  · injection ha with ha; injection ha with _ ha; rw [← ha]; exact .refl _
  · cases ha
theorem opRes_eff {V : Env} {pc : PC} {s : St} {o : Oper} : ∃ ρ, (opRes V pc s o).eff = (evalOp V ρ s.l s.l.length o).eff := by
  cases pc with
  | nil => exact ⟨_, rfl⟩
  | cons y r => exact ⟨_, rfl⟩
theorem evalSeq_vars {md : Way} {o : Oper} {st : St} {t' : Tm} {l' : List AO} (hk : keepsV o = true) (h : evalSeq V n ops md [o] st (fun q => q = ⟨t', l'⟩)) : VarsEq st.l l' := by
  simp only [evalSeq] at h
  split at h
  · exact h.elim
  rename_i pc hg
  cases md with
  | none =>
    simp only at h
    obtain ⟨_, _, h⟩ := h
    split at h
    · rename_i s' hs'
      subst h
      obtain ⟨ρ, hρ⟩ := opRes_eff (V := V) (pc := pc) (s := st) (o := o)
      exact after_vars hk hρ.symm hs'
    · exact h.elim
  | some sk =>
    simp only at h
    split at h
    · obtain ⟨_, _, h⟩ := h
      injection h with _ h; rw [← h]; exact .refl _
    · obtain ⟨_, _, _, h⟩ := h
      split at h
      · rename_i s' hs'
        subst h
        obtain ⟨ρ, hρ⟩ := opRes_eff (V := V) (pc := []) (s := st) (o := o)
        exact after_vars hk hρ.symm hs'
      · exact h.elim
def StepR (P : Program) (n : Nat) (ops : List Oper) (o : Oper) (s : St) (K : T → List AO → Prop) : Prop :=
  ∀ (st : St), st.l = s.l → (∀ t ∈ readsOf ops o, get st.t t = get s.t t) → ∀ (w0 : World) (I0 : Imm) (a : Act) (w : World) (Q : Exit → Act → World → Prop) (Kn : Act → World → Prop), Rel w0 I0 n st a w →
    (∀ u l' a' w', K u l' → (keepsV o = true → VarsEq s.l l') → Rel w0 I0 n ⟨putT st.t o.dst u, l'⟩ a' w' → Kn a' w') →
    if Region.wanted o (yielded ops.toArray a.tmps) = true then o.wpIn RnF 0 P a w Kn Q else (∀ f, o.about P w a.eval = some f → RnF.fn f) ∧ Kn (a.put o.dst undef) w
def Run (P : Program) (n : Nat) (ops : List Oper) : List Oper → St → (St → Prop) → Prop
  | [], s, K => K s
  | o :: r, s, K => StepR P n ops o s fun u l' => Run P n ops r ⟨putT s.t o.dst u, l'⟩ K
theorem StepR.mono {o : Oper} {s : St} {K K' : T → List AO → Prop} (h : StepR P n ops o s K) (hk : ∀ u l', K u l' → K' u l') : StepR P n ops o s K' :=
  fun st hl ha w0 I0 a w Q Kn hr hK => h st hl ha w0 I0 a w Q Kn hr fun u l' a' w' k => hK u l' a' w' (hk u l' k)
theorem step_seq (hV : VOk P V) {o : Oper} {r : List Oper} {s : St} (h : evalSeq V n ops md (o :: r) s K) : StepR P n ops o s fun u l' => evalSeq V n ops md r ⟨putT s.t o.dst u, l'⟩ K := by
  intro st hl ha w0 I0 a w Q Kn hrel hK
  obtain ⟨u, l', hstep, h'⟩ := evalSeq_cons (st := st) h hl ha
  refine evalSeq_step hV hrel hstep fun q a' w' hq hr' => ?_
  simp only [evalSeq] at hq
  subst hq
  exact hK u l' a' w' h' (fun hk => hl ▸ evalSeq_vars (st := st) hk hstep) hr'
theorem Run.seq (hV : VOk P V) {post : List Oper} : ∀ {r : List Oper} {s : St}, evalSeq V n ops md r s (fun s' => Run P n ops post s' K) → Run P n ops (r ++ post) s K
  | [], _, h => h
  | _ :: _, _, h => (step_seq hV h).mono fun _ _ h' => Run.seq hV h'
theorem Run.of (hV : VOk P V) {r : List Oper} {s : St} (h : evalSeq V n ops md r s K) : Run P n ops r s K := by
  have := Run.seq (P := P) (post := []) hV (K := K) (s := s) (r := r) h
  simpa using this
theorem Run.call (hV : VOk P V) {o : Oper} {r : List Oper} {s : St} {g : FuncId} {ts : List T} {pc : PC} (hg : guardPc ops s.t o.guard = some pc) (hp : holds pc) (hd : dstOk n o.dst = true) (hc : cloOf V.E (evT s.t) o = some (g, ts))
    (h : SemC P g ts s.l fun u l' => Run P n ops r ⟨putT s.t o.dst u, l'⟩ K) : Run P n ops (o :: r) s K := by
  intro st hl ha w0 I0 a w Q Kn hrel hK
  have hx : ∀ x ∈ o.op.operands, evT st.t x = evT s.t x := fun x hx => evT_agree fun t ht => ha t (List.mem_append_left _ (List.mem_filterMap.2 ⟨x, by simpa using hx, by rw [ht]⟩))
  obtain ⟨hsz, I, m, hw, hdf, ht⟩ := hrel
  have hwant := (wanted_ok (ops := ops) (a := a) ht ((guardPc_agree ha).trans hg)).2 hp
  rw [if_pos hwant]
  refine StepOk.wpIn (cloOf_nd hc) ?_
  obtain ⟨args, hrun, hlen, hargs⟩ := cloOf_run (P := P) (w := w) (ρ := a.eval) h.1 (fun x _ => evT_ok hw.sat.glob ht x) ((cloOf_congr hx).trans hc)
  rw [hrun]
  simp only [StepOk]
  refine (h.2 w0 I0 w I m args (fun k => a.tmps.getD k undef) st.t (by rw [← hl]; exact hw) hlen (by rw [← hl]; exact hargs) (by rw [← hl]; exact ht)).mono ?_
  rintro e w' ⟨v, he, t, l', J, m', k1, k2, k3, k5, k4⟩
  refine ⟨v, he, hK t l' _ w' k1 (fun hk => ?_) ⟨by cases o.dst <;> simp [Act.put, hsz], J, m', k2, hdf.put' k5, putT_ok hsz hd k4 k3⟩⟩
  exfalso
  unfold cloOf at hc
  unfold keepsV isReg at hk
  split at hc
  · rename_i c ho
    rw [ho] at hk
    simp only [Bool.false_or] at hk
    split at hc
    · rename_i f hf; rw [hf] at hk; simp at hk
    · cases hc
  · cases hc
theorem Run.wp (hV : VOk P V) (hK : ∀ s a w, K s → Rel w0 I0 n s a w → Q .normal a w) : ∀ (r : List Oper) (s : St) (a : Act) (w : World), Rel w0 I0 n s a w → Run P n ops r s K → wpListIn RnF 0 P ops.toArray Q r a w
  | [], s, a, w, hrel, h => hK s a w h hrel
  | o :: r, s, a, w, hrel, h => by
    unfold wpListIn
    exact h s rfl (fun _ _ => rfl) w0 I0 a w Q _ hrel fun u l' a' w' h' _ hr' => Run.wp hV hK r _ a' w' hr' h'
theorem tail2uok (hV : VOk P V) (hK : ∀ s a w, K s → Rel w0 I0 n s a w → Q .normal a w) {n1 : Nat} {F : List Nat} (hlex : lexOk ops = true) (htail : tailOk2 ops n1 F = true) (hpure : pureOk ops n1 = true) (hfl : floatOk0 ops n1 F = true) (hn1 : n1 ≤ ops.length) {s0 : St} {rs : List Rec} {B : Bool} (hinF : ∀ (f : Nat) o x, f ∈ F → ops[f]? = some o → rs[f]? = some x → Indep V B s0.l o x) (hkp : B = true ∨ ∀ (i : Nat) o, n1 ≤ i → ops[i]? = some o → keepsV o = true) 
    (hrs : RecsOk V n ops s0.l (ops.take n1) 0 s0.t 0 rs) :
    ∀ (fuel j : Nat) (s : St) (a : Act) (w : World) (listed : Array Bool), listed.size = ops.length → unl ops.length listed = fuel → (∀ i, i < ops.length → i ∉ F → listed.getD i false = decide (i < j)) → n1 ≤ j → j ≤ ops.length → Closed ops listed → TInv w0 I0 n B s0.l ops F rs s listed a w → Run P n ops (ops.drop j) s K →
      wpAnyIn RnF 0 P .any ops.toArray Q fuel listed a w := by
  have hrl : rs.length = n1 := by rw [hrs.len]; simp; omega
  intro fuel
  induction fuel with
  | zero =>
    intro j s a w listed hs hu hl hj hjl hcl hinv h
    have hall : ∀ i, i < ops.length → listed.getD i false = true := by
      intro i hi
      have := List.length_eq_zero_iff.1 hu
      have := (List.filter_eq_nil_iff.1 this) i (List.mem_range.2 hi)
      simpa using this
    have hjN : j = ops.length := by
      rcases Nat.lt_or_ge j ops.length with h' | h'
      · have hjF : j ∉ F := fun hF => by have := (float_at hfl hF).1; omega
        have := hl j h' hjF
        rw [hall j h'] at this; simp at this
      · omega
    rw [List.drop_eq_nil_of_le (by omega)] at h
    obtain ⟨h1, ⟨I, m, h3, h2, h4⟩, h5, _⟩ := hinv
    refine ⟨?_, hK s a w h ⟨h1, I, m, h3, h2, fun k => h4 k fun hk => ?_⟩⟩
    · refine List.eq_nil_iff_forall_not_mem.2 fun i hi => ?_
      have hlt := ready_lt hi
      have := ((ready_iff hs hlt (List.getElem?_eq_getElem hlt)).1 hi).1
      rw [hall i hlt] at this; cases this
    · obtain ⟨f, o, q1, q2, q3, _⟩ := mem_pend.1 hk
      rw [hall f (List.getElem?_eq_some_iff.1 q3).1] at q2; cases q2
  | succ fuel ih =>
    intro j s a w listed hs hu hl hj hjl hcl hinv h
    -- the least that is still to come may come
    have hleast : ∃ i, i < ops.length ∧ listed.getD i false = false ∧ ∀ k, k < i → listed.getD k false = true := by
      have hex : ∃ i, i < ops.length ∧ listed.getD i false = false := by
        refine Classical.byContradiction fun hh => ?_
        have : unl ops.length listed = 0 := by
          unfold unl
          rw [List.filter_eq_nil_iff.2 fun i hi => by
            have hi := List.mem_range.1 hi
            cases hb : listed.getD i false with
            | true => simp
            | false => exact absurd ⟨i, hi, hb⟩ hh]
          rfl
        omega
      obtain ⟨i, hi⟩ := hex
      induction i using Nat.strongRecOn with
      | ind i ih' =>
        by_cases hh : ∃ k, k < i ∧ listed.getD k false = false
        · obtain ⟨k, hk, hb⟩ := hh
          exact ih' k hk ⟨by omega, hb⟩
        · refine ⟨i, hi.1, hi.2, fun k hk => ?_⟩
          cases hb : listed.getD k false with
          | true => rfl
          | false => exact absurd ⟨k, hk, hb⟩ hh
    obtain ⟨i0, hi0, hb0, hbl⟩ := hleast
    have ho0 : ops[i0]? = some ops[i0] := List.getElem?_eq_getElem (by omega)
    have hready0 : i0 ∈ Region.ready .any ops.toArray listed := (ready_iff hs (by omega) ho0).2 ⟨hb0, fun k hk => hbl k (lex_at hlex ho0 k hk)⟩
    refine ⟨fun h0 => (by rw [h0] at hready0; cases hready0), fun i hi => ?_⟩
    have hlt := ready_lt hi
    have hoi : ops[i]? = some ops[i] := List.getElem?_eq_getElem hlt
    obtain ⟨h1, h2⟩ := (ready_iff hs hlt hoi).1 hi
    have hu' : unl ops.length (listed.setIfInBounds i true) = fuel := by have := unl_set hs hlt h1; omega
    have hL' : ∀ k, (listed.setIfInBounds i true).getD k false = if k = i then true else listed.getD k false := fun k => getD_set hs hlt
    generalize ops[i] = o at hoi h2
    unfold wpOpIn
    have harr : ops.toArray[i]? = some o := by simpa using hoi
    simp only [harr]
    obtain ⟨hsz, ⟨I, m, hw, hdf, ht⟩, hfi, hvars⟩ := hinv
    by_cases hiF : i ∈ F
    · -- a floater
      obtain ⟨hin, hfo⟩ := float_at hfl hiF
      obtain ⟨hgn, hfar⟩ := hfo o hoi
      have hx : rs[i]? = some rs[i] := List.getElem?_eq_getElem (by omega)
      generalize rs[i] = x at hx
      obtain ⟨hrec, htm, hnid⟩ := hrs.at_ i o x (by rw [List.getElem?_take, if_pos hin]; exact hoi) hx
      obtain ⟨⟨qc, hg, hqp⟩, hgnn, hres, hob, hdst, hnew, hgone⟩ := hrec
      have hpc : x.pc = [] := hgnn hgn
      obtain ⟨hnn, hind⟩ := hinF i o x hiF hoi hx
      obtain ⟨hfr, hfd⟩ := hfi i o x hiF h1 hoi hx
      have hslot : ∀ t, t ∈ readsOf ops o → RdT I m s.l (a.tmps.getD t undef) (get x.tm t) := by
        intro t htr
        rw [← hfr t htr]
        refine ht t fun hp => ?_
        obtain ⟨f, q, q1, q2, q3, q4⟩ := mem_pend.1 hp
        have := (pure_at hpure hin (float_at hfl q1).1 hoi q3 q4).2 htr
        rw [h2 f this.2] at q2; cases q2
      have hev : ∀ y ∈ o.op.operands, RdT I m s.l (a.eval y) (evT x.tm y) := by
        intro y hy
        cases y with
        | tmp t => exact hslot t (List.mem_append_left _ (List.mem_filterMap.2 ⟨.tmp t, by simpa using hy, rfl⟩))
        | const v => exact constT_ok v
        | global g => exact globT_ok hw.sat.glob g
        | func f => exact .d _ _ (.fn f)
      have hwant := wanted_ok' (ops := ops) (a := a) (fun j b d hgd hd => hslot d (List.mem_append_right _ (by rw [hgd]; simp only; rw [hd]; simp))) hg
      have hwant := hwant.trans hqp
      have hp : holds x.pc := by rw [hpc]; trivial
      rw [if_pos (hwant.2 hp)]
      obtain ⟨hob1, hob2⟩ := hob hp
      have hops : ∀ y ∈ o.op.operands, RdT I m s.l (a.eval y) (strip x.pc (evT x.tm y)).1 := fun y hy =>
        strip_ok (hev y hy) hp (obAll_mem hob2 _ (List.mem_map.2 ⟨y, by simpa using hy, rfl⟩))
      have hres' := hind hpc hob1 s.l hvars
      have hnd0 := evalOp_nd (show (evalOp V (fun y => (strip x.pc (evT x.tm y)).1) s.l 0 o).ob by rw [hres']; exact hob1)
      have hsnd := evalOp_sound (nid := 0) hV hw (Com.refl s.l) hops (by rw [hres']; exact hob1)
      rw [hres'] at hsnd
      unfold RSound at hsnd
      simp only at hsnd
      refine StepOk.wpIn hnd0 (hsnd.mono fun v w' ⟨J, hle, hw', hv⟩ => ?_)
      refine ih j s _ w' _ (by simp [hs]) hu' (fun k hk hkF => by rw [hL' k, if_neg (show ¬ k = i from fun e => hkF (e ▸ hiF))]; exact hl k hk hkF) hj hjl (hcl.step hoi h2 hL') ?_ h
      refine ⟨by cases o.dst <;> simp [Act.put, hsz], ⟨J, m, hw', hdf.put hle.imm, fun k hk => ?_⟩, fun f q y hf hlf hq hy => ?_, ?_⟩
      · by_cases hkd : o.dst = some k
        · have hdn : k < n := by rw [hkd] at hdst; simpa [dstOk] using hdst
          have : (a.put o.dst v).tmps.getD k undef = v := by simp [hkd, Act.put, Array.getD_eq_getD_getElem?, hsz, hdn]
          rw [this, hfd k hkd]
          unfold Rec.out; rw [if_pos hpc]; exact hv
        · have : (a.put o.dst v).tmps.getD k undef = a.tmps.getD k undef := by
            cases hod : o.dst with
            | none => rfl
            | some d' =>
              have : d' ≠ k := fun e => hkd (by rw [hod, e])
              simp [Act.put, Array.getD_eq_getD_getElem?, this]
          rw [this]
          refine (ht k fun hp' => hk ?_).mono hle
          obtain ⟨f, q, q1, q2, q3, q4⟩ := mem_pend.1 hp'
          refine mem_pend.2 ⟨f, q, q1, ?_, q3, q4⟩
          rw [hL' f, if_neg]; · exact q2
          rintro rfl; rw [hoi] at q3; injection q3 with q3; subst q3; exact hkd q4
      · have hne : f ≠ i := by rintro rfl; rw [hL' f, if_pos rfl] at hlf; cases hlf
        exact hfi f q y hf (by rw [hL' f, if_neg hne] at hlf; exact hlf) hq hy
      · exact hvars
    · -- the tail's next
      have hij : i = j := by
        have h1' := h1
        rw [hl i hlt hiF] at h1'
        have h1' : ¬ i < j := by simpa using h1'
        rcases Nat.lt_or_ge j i with hlt' | hge
        · have hjF : j ∉ F := fun hF => by have := (float_at hfl hF).1; omega
          have := waitsT_listed hcl 8 o j h2 (tail2uat htail hoi (by omega) j hlt' hjF)
          rw [hl j (by omega) hjF] at this; simp at this
        · omega
      subst hij
      have hjl' : i < ops.length := hlt
      rw [List.drop_eq_getElem_cons hjl'] at h
      have hoe : ops[i] = o := by have := List.getElem?_eq_getElem hjl'; rw [hoi] at this; injection this with this; exact this.symm
      rw [hoe] at h
      let st : St := ⟨(pend ops F listed).map (fun d => (d, T.undef)) ++ s.t, s.l⟩
      have hget : ∀ k, k ∉ pend ops F listed → get st.t k = get s.t k := fun k hk => by simp only [st]; rw [get_undefs, if_neg hk]
      have hrelT : Rel w0 I0 n st a w := by
        refine ⟨hsz, I, m, hw, hdf, fun k => ?_⟩
        by_cases hk : k ∈ pend ops F listed
        · simp only [st]; rw [get_undefs, if_pos hk]; exact .undef _
        · rw [hget k hk]; exact ht k hk
      have hagree : ∀ t ∈ readsOf ops o, get st.t t = get s.t t := fun t htr => hget t fun hp => by
        obtain ⟨f, q, q1, q2, q3, q4⟩ := mem_pend.1 hp
        have := ((float_at hfl q1).2 q q3).2 i o hj hoi
        have := this.2 t q4 htr
        rw [h2 f this] at q2; cases q2
      have h : StepR P n ops o s _ := h
      refine h st rfl hagree w0 I0 a w Q _ hrelT fun u l' a' w' h hv hr' => ?_
      have hvars' : B = true ∨ VarsEq s0.l l' := by
        rcases hvars with hB | hvars
        · exact .inl hB
        rcases hkp with hB | hkp
        · exact .inl hB
        exact .inr (hvars.trans (hv (hkp i o hj hoi)))
      obtain ⟨r1, J, m', r3, r2, r4⟩ := hr'
      have hpe : ∀ k, k ∈ pend ops F (listed.setIfInBounds i true) ↔ k ∈ pend ops F listed := fun k => by
        rw [mem_pend, mem_pend]
        constructor
        · rintro ⟨f, q, q1, q2, q3, q4⟩
          exact ⟨f, q, q1, by rw [hL' f, if_neg (show ¬ f = i from fun e => hiF (e ▸ q1))] at q2; exact q2, q3, q4⟩
        · rintro ⟨f, q, q1, q2, q3, q4⟩
          exact ⟨f, q, q1, by rw [hL' f, if_neg (show ¬ f = i from fun e => hiF (e ▸ q1))]; exact q2, q3, q4⟩
      refine ih (i + 1) ⟨putT s.t o.dst u, l'⟩ a' w' _ (by simp [hs]) hu' (fun k hk hkF => by rw [hL' k, hl k hk hkF]; by_cases e : k = i <;> simp [e] <;> (try omega)) (by omega) (by omega) (hcl.step hoi h2 hL') ⟨r1, ⟨J, m', r3, r2, fun k hk => ?_⟩, fun f q y hf hlf hq hy => ?_, hvars'⟩ h
      · have := r4 k
        have hk' : k ∉ pend ops F listed := fun e => hk ((hpe k).2 e)
        have e : get (putT st.t o.dst u) k = get (putT s.t o.dst u) k := by
          cases o.dst with
          | none => exact hget k hk'
          | some d =>
            simp only [putT, get]
            split
            · rfl
            · exact hget k hk'
        show RdT J m' l' _ (get (putT s.t o.dst u) k)
        rw [← e]; exact this
      · have hlf' : listed.getD f false = false := by rw [hL' f, if_neg (show ¬ f = i from fun e => hiF (e ▸ hf))] at hlf; exact hlf
        obtain ⟨g1, g2⟩ := hfi f q y hf hlf' hq hy
        have hfar := ((float_at hfl hf).2 q hq).2 i o hj hoi
        have hfar := And.intro (hfar.1.resolve_left (fun hw => by rw [h2 f hw] at hlf'; cases hlf')) hfar.2
        have hput : ∀ t, o.dst ≠ some t → get (putT s.t o.dst u) t = get s.t t := fun t hne => by
          cases hod : o.dst with
          | none => rfl
          | some d => simp only [putT, get]; rw [if_neg (fun e => hne (by rw [hod, e]))]
        refine ⟨fun t htr => ?_, fun d hd => ?_⟩
        · exact (hput t (fun e => (hfar.1 t e).1 htr)).trans (g1 t htr)
        · exact (hput d (fun e => (hfar.1 d e).2 hd)).trans (g2 d hd)
theorem tinv_of_inv {n1 : Nat} {F : List Nat} (hpure : pureOk ops n1 = true) (hfl : floatOk0 ops n1 F = true) (hn1 : n1 ≤ ops.length) {s0 : St} {rs : List Rec} {B : Bool} (hinF : ∀ (f : Nat) o x, f ∈ F → ops[f]? = some o → rs[f]? = some x → Indep V B s0.l o x) (hrl : rs.length = n1) (hrs : RecsOk V n ops s0.l (ops.take n1) 0 s0.t 0 rs) {listed : Array Bool} {a : Act} {w : World} (hinv : Inv w0 I0 n n1 ops s0 rs listed a w) (hall : ∀ i, i < n1 → i ∉ F → listed.getD i false = true) :
    TInv w0 I0 n B s0.l ops F rs ⟨tmOf s0.t (ops.take n1) rs, s0.l ++ (newsOf 0 rs).map (·.2)⟩ listed a w := by
  obtain ⟨h1, I, m, h3, h2, h4, h5⟩ := hinv
  have hnewF : ∀ p ∈ newsOf 0 rs, p.1 ∉ F := by
    intro p hp hF
    obtain ⟨i, x, e1, e2, e3⟩ := newsOf_mem rs 0 p hp
    have hi : p.1 = i := by omega
    rw [hi] at hF
    have hin := (float_at hfl hF).1
    have ho : ops[i]? = some ops[i] := List.getElem?_eq_getElem (by omega)
    have := (hinF i _ x hF ho e2).1
    rw [e3] at this; cases this
  have hL : objsAt s0.l (newsOf 0 rs) (fun i => listed.getD i false) = s0.l ++ (newsOf 0 rs).map (·.2) := by
    unfold objsAt
    congr 1
    apply List.map_congr_left
    intro p hp
    have := (newsOf_spec rs 0).1 p hp
    rw [if_pos (hall p.1 (by omega) (hnewF p hp))]
  rw [hL] at h3 h4 h5
  have hat : ∀ (i : Nat) o x k, i < n1 → ops[i]? = some o → rs[i]? = some x → o.dst = some k → get (tmOf s0.t (ops.take n1) rs) k = x.out := fun i o x k hi ho hx hd =>
    get_tmOf_at (ops.take n1) rs s0.t k i o x (by rw [List.getElem?_take, if_pos hi]; exact ho) hx hd (fun j q hq hj => by
      have hjn : j < n1 := by have := (List.getElem?_eq_some_iff.1 hq).1; simp at this; omega
      rw [List.getElem?_take, if_pos hjn] at hq
      exact (pure_at hpure hjn hi hq ho hd).1 hj)
  have hother : ∀ k, (¬ ∃ i o, i < n1 ∧ ops[i]? = some o ∧ o.dst = some k) → get (tmOf s0.t (ops.take n1) rs) k = get s0.t k := fun k hk =>
    get_tmOf_other (ops.take n1) rs s0.t k (fun o ho hd => hk (by
      obtain ⟨i, hi, rfl⟩ := List.mem_iff_getElem.1 ho
      have hi' : i < n1 := by simp at hi; omega
      exact ⟨i, _, hi', by rw [List.getElem?_eq_getElem (by omega)], by simpa using hd⟩))
  refine ⟨h1, ⟨I, m, h3, h2, fun k hnp => ?_⟩, fun f o x hf hlf ho hx => ⟨fun t htr => ?_, fun d hd => ?_⟩, .inr (.append _ _)⟩
  · by_cases hk : ∃ i o, i < n1 ∧ ops[i]? = some o ∧ o.dst = some k
    · obtain ⟨i, o, hi, ho, hd⟩ := hk
      have hx : rs[i]? = some rs[i] := List.getElem?_eq_getElem (by omega)
      have hli : listed.getD i false = true := by
        cases hb : listed.getD i false with
        | true => rfl
        | false =>
          have hiF : i ∈ F := Classical.byContradiction fun hF => by rw [hall i hi hF] at hb; cases hb
          exact absurd (mem_pend.2 ⟨i, o, hiF, hb, ho, hd⟩) hnp
      show RdT I m _ _ (get (tmOf s0.t (ops.take n1) rs) k)
      rw [hat i o _ k hi ho hx hd]
      exact h4 i o _ k hi ho hx hli hd
    · show RdT I m _ _ (get (tmOf s0.t (ops.take n1) rs) k)
      rw [hother k hk]
      exact h5 k (fun i o hi ho _ hd => hk ⟨i, o, hi, ho, hd⟩)
  · -- what a floater reads
    obtain ⟨hin, hfo⟩ := float_at hfl hf
    obtain ⟨_, htm, _⟩ := hrs.at_ f o x (by rw [List.getElem?_take, if_pos hin]; exact ho) hx
    rw [htm, show (ops.take n1).take f = ops.take f by rw [List.take_take]; congr 1; omega]
    show get (tmOf s0.t (ops.take n1) rs) t = _
    by_cases hk : ∃ i o, i < n1 ∧ ops[i]? = some o ∧ o.dst = some t
    · obtain ⟨i, q, hi, hq, hd⟩ := hk
      have hxi : rs[i]? = some rs[i] := List.getElem?_eq_getElem (by omega)
      rw [hat i q _ t hi hq hxi hd]
      obtain ⟨hji, hjw⟩ := (pure_at hpure hin hi ho hq hd).2 htr
      rw [get_tmOf_at (ops.take f) (rs.take f) s0.t t i q _ (by rw [List.getElem?_take, if_pos hji]; exact hq) (by rw [List.getElem?_take, if_pos hji]; exact hxi) hd (fun k q' hq' hk => by
        have hki : k < f := by have := (List.getElem?_eq_some_iff.1 hq').1; simp at this; omega
        rw [List.getElem?_take, if_pos hki] at hq'
        exact (pure_at hpure (by omega) hi hq' hq hd).1 hk)]
    · rw [hother t hk, get_tmOf_other (ops.take f) (rs.take f) s0.t t (fun q hq hd => hk (by
        obtain ⟨j, hj, rfl⟩ := List.mem_iff_getElem.1 hq
        have hj' : j < f := by simp at hj; omega
        exact ⟨j, _, by omega, by rw [List.getElem?_eq_getElem (by omega)], by simpa using hd⟩))]
  · exact hat f o x d (float_at hfl hf).1 ho hx hd
theorem pure2uok (hV : VOk P V) (hK : ∀ s a w, K s → Rel w0 I0 n s a w → Q .normal a w) {n1 : Nat} {F : List Nat} (hlex : lexOk ops = true) (htail : tailOk2 ops n1 F = true) (hfl : floatOk0 ops n1 F = true) (hpure : pureOk ops n1 = true) (hn1 : n1 ≤ ops.length) {s0 : St} {rs : List Rec} {B : Bool} (hinF : ∀ (f : Nat) o x, f ∈ F → ops[f]? = some o → rs[f]? = some x → Indep V B s0.l o x) (hkp : B = true ∨ ∀ (i : Nat) o, n1 ≤ i → ops[i]? = some o → keepsV o = true) 
    (hrs : RecsOk V n ops s0.l (ops.take n1) 0 s0.t 0 rs) (hend : Run P n ops (ops.drop n1) ⟨tmOf s0.t (ops.take n1) rs, s0.l ++ (newsOf 0 rs).map (·.2)⟩ K) :
    ∀ (fuel : Nat) (a : Act) (w : World) (listed : Array Bool), listed.size = ops.length → unl ops.length listed = fuel → (∀ i, n1 ≤ i → i < ops.length → listed.getD i false = false) → Closed ops listed → Inv w0 I0 n n1 ops s0 rs listed a w →
      wpAnyIn RnF 0 P .any ops.toArray Q fuel listed a w := by
  have hrl : rs.length = n1 := by rw [hrs.len]; simp; omega
  have htk : ∀ i, i < n1 → (ops.take n1)[i]? = ops[i]? := fun i hi => by rw [List.getElem?_take, if_pos hi]
  intro fuel
  induction fuel with
  | zero =>
    intro a w listed hs hu htl hcl hinv
    have hall : ∀ i, i < ops.length → listed.getD i false = true := by
      intro i hi
      have := List.length_eq_zero_iff.1 hu
      have := (List.filter_eq_nil_iff.1 this) i (List.mem_range.2 hi)
      simpa using this
    have hN : n1 = ops.length := by
      rcases Nat.lt_or_ge n1 ops.length with h | h
      · have := htl n1 (Nat.le_refl _) h; rw [hall n1 h] at this; cases this
      · omega
    exact tail2uok hV hK hlex htail hpure hfl hn1 hinF hkp hrs 0 n1 _ a w listed hs hu (fun i hi _ => by rw [hall i hi]; simp; omega) (Nat.le_refl _) hn1 hcl (tinv_of_inv hpure hfl hn1 hinF hrl hrs hinv (fun i hi _ => hall i (by omega))) hend
  | succ fuel ih =>
    intro a w listed hs hu htl hcl hinv
    by_cases hall : ∀ i, i < n1 → i ∉ F → listed.getD i false = true
    · have hl : ∀ i, i < ops.length → i ∉ F → listed.getD i false = decide (i < n1) := by
        intro i hi hF
        by_cases h : i < n1
        · rw [hall i h hF]; simp [h]
        · rw [htl i (by omega) hi]; simp [h]
      exact tail2uok hV hK hlex htail hpure hfl hn1 hinF hkp hrs (fuel + 1) n1 _ a w listed hs hu hl (Nat.le_refl _) hn1 hcl (tinv_of_inv hpure hfl hn1 hinF hrl hrs hinv hall) hend
    · -- the least that is still to come may come
      obtain ⟨hsz, I, m, hw, hdf, hc1, hc2⟩ := hinv
      have hex1 : ∃ i, i < n1 ∧ i ∉ F ∧ listed.getD i false = false := by
        refine Classical.byContradiction fun h => hall fun i hi hF => ?_
        cases hb : listed.getD i false with
        | true => rfl
        | false => exact absurd ⟨i, hi, hF, hb⟩ h
      obtain ⟨i1, hi1, hF1, hb1⟩ := hex1
      have hex : ∃ i, i < n1 ∧ listed.getD i false = false := ⟨i1, hi1, hb1⟩
      have hleast : ∃ i, i < n1 ∧ listed.getD i false = false ∧ ∀ j, j < i → listed.getD j false = true := by
        obtain ⟨i, hi⟩ := hex
        induction i using Nat.strongRecOn with
        | ind i ih' =>
          by_cases h : ∃ j, j < i ∧ listed.getD j false = false
          · obtain ⟨j, hj, hb⟩ := h
            exact ih' j hj ⟨by omega, hb⟩
          · refine ⟨i, hi.1, hi.2, fun j hj => ?_⟩
            cases hb : listed.getD j false with
            | true => rfl
            | false => exact absurd ⟨j, hj, hb⟩ h
      obtain ⟨i0, hi0, hb0, hbl⟩ := hleast
      have ho0 : ops[i0]? = some ops[i0] := List.getElem?_eq_getElem (by omega)
      have hready0 : i0 ∈ Region.ready .any ops.toArray listed := (ready_iff hs (by omega) ho0).2 ⟨hb0, fun j hj => hbl j (lex_at hlex ho0 j hj)⟩
      refine ⟨fun h0 => (by rw [h0] at hready0; cases hready0), fun i hi => ?_⟩
      have hlt := ready_lt hi
      have hoi : ops[i]? = some ops[i] := List.getElem?_eq_getElem hlt
      obtain ⟨h1, h2⟩ := (ready_iff hs hlt hoi).1 hi
      have hin1 : i < n1 := by
        rcases Nat.lt_or_ge i n1 with h | h
        · exact h
        · have := waitsT_listed hcl 8 _ i1 h2 (tail2uat htail hoi h i1 (by omega) hF1); rw [hb1] at this; cases this
      generalize ops[i] = o at hoi h2
      have hx : rs[i]? = some rs[i] := List.getElem?_eq_getElem (by omega)
      generalize rs[i] = x at hx
      obtain ⟨hrec, htm, hnid⟩ := hrs.at_ i o x (by rw [htk i hin1]; exact hoi) hx
      obtain ⟨⟨qc, hg, hqp⟩, hgnn, hres, hob, hdst, hnew, hgone⟩ := hrec
      unfold wpOpIn
      have : ops.toArray[i]? = some o := by simpa using hoi
      simp only [this]
      -- the slots that it reads
      have hslot : ∀ t, t ∈ readsOf ops o → RdT I m (objsAt s0.l (newsOf 0 rs) fun i => listed.getD i false) (a.tmps.getD t undef) (get x.tm t) := by
        intro t ht
        rw [htm]
        rw [show (ops.take n1).take i = ops.take i by rw [List.take_take]; congr 1; omega]
        by_cases hk : ∃ j q, j < n1 ∧ ops[j]? = some q ∧ q.dst = some t
        · obtain ⟨j, q, hj, hq, hd⟩ := hk
          obtain ⟨hji, hjw⟩ := (pure_at hpure hin1 hj hoi hq hd).2 ht
          have hxj : rs[j]? = some rs[j] := List.getElem?_eq_getElem (by omega)
          rw [get_tmOf_at (ops.take i) (rs.take i) s0.t t j q _ (by rw [List.getElem?_take, if_pos hji]; exact hq) (by rw [List.getElem?_take, if_pos hji]; exact hxj) hd (fun k q' hq' hk => by
            have hki : k < i := by have := (List.getElem?_eq_some_iff.1 hq').1; simp at this; omega
            rw [List.getElem?_take, if_pos hki] at hq'
            exact (pure_at hpure (by omega) hj hq' hq hd).1 hk)]
          exact hc1 j q _ t hj hq hxj (h2 j hjw) hd
        · rw [get_tmOf_other (ops.take i) (rs.take i) s0.t t (fun q hq hd => hk (by
            obtain ⟨j, hj, rfl⟩ := List.mem_iff_getElem.1 hq
            have hj' : j < i := by simp at hj; omega
            exact ⟨j, _, by omega, by rw [List.getElem?_eq_getElem (by omega)], by simpa using hd⟩))]
          exact hc2 t (fun j q hj hq _ hd => hk ⟨j, q, hj, hq, hd⟩)
      have hev : ∀ y ∈ o.op.operands, RdT I m (objsAt s0.l (newsOf 0 rs) fun i => listed.getD i false) (a.eval y) (evT x.tm y) := by
        intro y hy
        cases y with
        | tmp t => exact hslot t (List.mem_append_left _ (List.mem_filterMap.2 ⟨.tmp t, by simpa using hy, rfl⟩))
        | const v => exact constT_ok v
        | global g => exact globT_ok hw.sat.glob g
        | func f => exact .d _ _ (.fn f)
      have hwant := wanted_ok' (ops := ops) (a := a) (fun j b d hgd hd => hslot d (List.mem_append_right _ (by rw [hgd]; simp only; rw [hd]; simp))) hg
      have hwant := hwant.trans hqp
      have hu' : unl ops.length (listed.setIfInBounds i true) = fuel := by have := unl_set hs hlt h1; omega
      have htl' : ∀ k, n1 ≤ k → k < ops.length → (listed.setIfInBounds i true).getD k false = false := fun k hk hkl => by
        rw [getD_set hs hlt, if_neg (by omega)]; exact htl k hk hkl
      have hL' : ∀ j, (listed.setIfInBounds i true).getD j false = if j = i then true else listed.getD j false := fun j => getD_set hs hlt
      -- the state behind it
      have next : ∀ (J : Imm) (m' : Nat → Value) (v : Value) (w' : World), Le I m (objsAt s0.l (newsOf 0 rs) fun i => listed.getD i false) J m' (objsAt s0.l (newsOf 0 rs) fun k => (listed.setIfInBounds i true).getD k false) →
          WRel w0 I0 w' J m' (objsAt s0.l (newsOf 0 rs) fun k => (listed.setIfInBounds i true).getD k false) → RdT J m' (objsAt s0.l (newsOf 0 rs) fun k => (listed.setIfInBounds i true).getD k false) v x.out →
          wpAnyIn RnF 0 P .any ops.toArray Q fuel (listed.setIfInBounds i true) (a.put o.dst v) w' := by
        intro J m' v w' hle hw' hv
        refine ih _ _ _ (by simp [hs]) hu' htl' (hcl.step hoi h2 hL') ⟨by cases o.dst <;> simp [Act.put, hsz], J, m', hw', hdf.put hle.imm, fun j q y d hj hq hy hl hd => ?_, fun d hd => ?_⟩
        · by_cases hji : j = i
          · subst hji
            rw [hoi] at hq; injection hq with hq; subst hq
            rw [hx] at hy; injection hy with hy; subst hy
            have hdn : d < n := by rw [hd] at hdst; simpa [dstOk] using hdst
            have : (a.put o.dst v).tmps.getD d undef = v := by simp [hd, Act.put, Array.getD_eq_getD_getElem?, hsz, hdn]
            rw [this]; exact hv
          · have hlj : listed.getD j false = true := by rw [hL' j, if_neg hji] at hl; exact hl
            have hne : o.dst ≠ some d := (pure_at hpure hin1 hj hoi hq hd).1 (Ne.symm hji)
            have : (a.put o.dst v).tmps.getD d undef = a.tmps.getD d undef := by
              cases hod : o.dst with
              | none => rfl
              | some d' =>
                have : d' ≠ d := fun e => hne (by rw [hod, e])
                simp [Act.put, Array.getD_eq_getD_getElem?, this]
            rw [this]; exact (hc1 j q y d hj hq hy hlj hd).mono hle
        · have hne : o.dst ≠ some d := hd i o hin1 hoi (by rw [hL' i, if_pos rfl])
          have : (a.put o.dst v).tmps.getD d undef = a.tmps.getD d undef := by
            cases hod : o.dst with
            | none => rfl
            | some d' =>
              have : d' ≠ d := fun e => hne (by rw [hod, e])
              simp [Act.put, Array.getD_eq_getD_getElem?, this]
          rw [this]
          exact (hc2 d (fun j q hj hq hl => hd j q hj hq (by rw [hL' j]; split <;> first | rfl | exact hl))).mono hle
      have hsame : x.new = none → (objsAt s0.l (newsOf 0 rs) fun i => listed.getD i false) = objsAt s0.l (newsOf 0 rs) fun k => (listed.setIfInBounds i true).getD k false := by
        intro hnn
        refine objsAt_same fun p hp => ?_
        rw [hL' p.1, if_neg]
        intro he
        obtain ⟨i', x', e1, e2, e3⟩ := newsOf_mem rs 0 p hp
        have : i' = i := by omega
        subst this
        rw [hx] at e2; injection e2 with e2; subst e2
        rw [hnn] at e3; cases e3
      by_cases hp : holds x.pc
      · rw [if_pos (hwant.2 hp)]
        obtain ⟨hob1, hob2⟩ := hob hp
        have hres := hres hp
        have hnd0 := evalOp_nd (show (evalOp V (fun y => (strip x.pc (evT x.tm y)).1) s0.l x.nid o).ob by rw [hres]; exact hob1)
        have hops : ∀ y ∈ o.op.operands, RdT I m (objsAt s0.l (newsOf 0 rs) fun i => listed.getD i false) (a.eval y) (strip x.pc (evT x.tm y)).1 := fun y hy =>
          strip_ok (hev y hy) hp (obAll_mem hob2 _ (List.mem_map.2 ⟨y, by simpa using hy, rfl⟩))
        have hsnd := evalOp_sound (nid := x.nid) hV hw (objsAt_com (l0 := s0.l)) hops (by rw [hres]; exact hob1)
        rw [hres] at hsnd
        unfold RSound at hsnd
        cases hnn : x.new with
        | none =>
          simp only [hnn] at hsnd
          refine StepOk.wpIn hnd0 (hsnd.mono fun v w' ⟨J, hle, hw', hv⟩ => ?_)
          rw [hsame hnn] at hle hw' hv
          refine next J m v w' (by rw [hsame hnn]; exact hle) hw' ?_
          unfold Rec.out
          split
          · exact hv
          · exact .cond _ _ _ (fun _ => hv) (fun hn => absurd hp hn)
        | some b =>
          simp only [hnn] at hsnd
          have hpc : x.pc = [] := hnew (by rw [hnn]; rfl)
          have hpos := (newsOf_spec rs 0).2.1 i x b hx hnn
          simp only [Nat.zero_add] at hpos
          have hdead : (objsAt s0.l (newsOf 0 rs) fun i => listed.getD i false)[x.nid]? = some .dead := by
            rw [hnid, Nat.add_zero]
            have := objsAt_get (l0 := s0.l) (L := fun i => listed.getD i false) hpos
            simp only [h1] at this
            simpa using this
          have hset : (objsAt s0.l (newsOf 0 rs) fun i => listed.getD i false).set x.nid b = objsAt s0.l (newsOf 0 rs) fun k => (listed.setIfInBounds i true).getD k false := by
            rw [hnid, Nat.add_zero]
            exact objsAt_set hpos (fun q y hq hy => (newsOf_spec rs 0).2.2 q _ y _ hq hpos hy) hL'
          refine StepOk.wpIn hnd0 ((hsnd hdead).mono fun v w' ⟨m', hle, hw', hv⟩ => ?_)
          rw [hset] at hle hw' hv
          refine next I m' v w' hle hw' ?_
          unfold Rec.out
          rw [if_pos hpc]; exact hv
      · rw [if_neg (fun hh => hp (hwant.1 hh))]
        have hpc : x.pc ≠ [] := by intro e; rw [e] at hp; exact hp trivial
        have hnn : x.new = none := by
          cases hn' : x.new with
          | none => rfl
          | some b => exact absurd (hnew (by rw [hn']; rfl)) hpc
        have hw' := hw
        rw [hsame hnn] at hw'
        refine ⟨fun f _ => RnF_fn f, next I m undef w (by rw [hsame hnn]; exact .refl ..) hw' ?_⟩
        unfold Rec.out
        rw [if_neg hpc]
        exact .cond _ _ _ (fun h => absurd h hp) (fun _ => rfl)
theorem draw3_wp (hV : VOk P V) (hK : ∀ s a w, K s → Rel w0 I0 n s a w → Q .normal a w) {s : St} {a : Act} {w : World} {n1 : Nat} {F : List Nat} (hlex : lexOk ops = true) (htail : tailOk2 ops n1 F = true) (hfl : floatOk0 ops n1 F = true) (hpure : pureOk ops n1 = true) (hn1 : n1 ≤ ops.length)
    (hrel : Rel w0 I0 n s a w) {rs : List Rec} {B : Bool} (hinF : ∀ (f : Nat) o x, f ∈ F → ops[f]? = some o → rs[f]? = some x → Indep V B s.l o x) (hkp : B = true ∨ ∀ (i : Nat) o, n1 ≤ i → ops[i]? = some o → keepsV o = true) (hrs : RecsOk V n ops s.l (ops.take n1) 0 s.t ([] : List (Nat × AO)).length rs) (hend : Run P n ops (ops.drop n1) ⟨tmOf s.t (ops.take n1) rs, s.l ++ (([] : List (Nat × AO)) ++ newsOf 0 rs).map (·.2)⟩ K) : wpAnyIn RnF 0 P .any ops.toArray Q ops.length (Array.replicate ops.length false) a { w with drawn := w.drawn + 1 } := by
  obtain ⟨hsz, I, m, hw, hdf, ht⟩ := hrel
  have hl0 : ∀ i, (Array.replicate ops.length false).getD i false = false := fun i => by
    rw [Array.getD_eq_getD_getElem?]
    cases hx : (Array.replicate ops.length false)[i]? with
    | none => rfl
    | some b => have := Array.getElem?_eq_some_iff.1 hx; simp at this; simp [← this.2]
  have hw1 : WRel w0 I0 { w with drawn := w.drawn + 1 } I m s.l := (hw.call (w' := { w with drawn := w.drawn + 1 }) ⟨rfl, rfl, rfl, Nat.le_refl _, fun _ _ => rfl, fun _ => Nat.le_succ _⟩ (ExtI.refl _ _) ⟨hw.sat.cell, hw.sat.mp, hw.sat.df, hw.sat.glob⟩).1
  obtain ⟨hw2, hle⟩ : WRel w0 I0 { w with drawn := w.drawn + 1 } I m (objsAt s.l (newsOf 0 rs) fun i => (Array.replicate ops.length false).getD i false) ∧ Le I m s.l I m (objsAt s.l (newsOf 0 rs) fun i => (Array.replicate ops.length false).getD i false) := by
    have : (objsAt s.l (newsOf 0 rs) fun i => (Array.replicate ops.length false).getD i false) = s.l ++ List.replicate (newsOf 0 rs).length .dead := by
      unfold objsAt
      congr 1
      rw [List.eq_replicate_iff]
      refine ⟨by simp, fun b hb => ?_⟩
      obtain ⟨p, _, rfl⟩ := List.mem_map.1 hb
      rw [if_neg (by simp only [hl0]; simp)]
    rw [this]
    generalize (newsOf 0 rs).length = c
    induction c with
    | zero => simp; exact ⟨hw1, .refl ..⟩
    | succ c ih =>
      obtain ⟨q1, q2⟩ := ih
      obtain ⟨r1, r2⟩ := q1.push
      rw [List.replicate_succ', ← List.append_assoc]
      exact ⟨r1, q2.trans r2⟩
  have := pure2uok (Q := Q) (K := K) hV hK hlex htail hfl hpure hn1 (s0 := s) (rs := rs) hinF hkp (by simpa using hrs) (by simpa using hend) ops.length a { w with drawn := w.drawn + 1 } (Array.replicate ops.length false) (by simp)
    (by unfold unl; rw [List.filter_eq_self.2 (fun i _ => by rw [hl0]; rfl)]; simp) (fun i _ _ => hl0 i)
    (fun i o _ hl => by rw [hl0] at hl; cases hl)
    ⟨hsz, I, m, hw2, hdf.mono hle.imm, fun i o x d hi ho hx hl => (by rw [hl0] at hl; cases hl), fun d _ => (ht d).mono hle⟩
  simpa using this
theorem draw3_core (hV : VOk P V) (hm : P.follows .mixedOrders = true) (hK : ∀ s a w, K s → Rel w0 I0 n s a w → Q .normal a w) {id : Nat} {s : St} {a : Act} {w : World} {n1 : Nat} {F : List Nat} (hlex : lexOk ops = true) (htail : tailOk2 ops n1 F = true) (hfl : floatOk0 ops n1 F = true) (hpure : pureOk ops n1 = true) (hn1 : n1 ≤ ops.length)
    (hrel : Rel w0 I0 n s a w) {rs : List Rec} {B : Bool} (hinF : ∀ (f : Nat) o x, f ∈ F → ops[f]? = some o → rs[f]? = some x → Indep V B s.l o x) (hkp : B = true ∨ ∀ (i : Nat) o, n1 ≤ i → ops[i]? = some o → keepsV o = true) (hrs : RecsOk V n ops s.l (ops.take n1) 0 s.t ([] : List (Nat × AO)).length rs) (hend : Run P n ops (ops.drop n1) ⟨tmOf s.t (ops.take n1) rs, s.l ++ (([] : List (Nat × AO)) ++ newsOf 0 rs).map (·.2)⟩ K) : (Code.region id ops.toArray true).wpIn RnF 0 P Q a w := by
  refine wpIn_region_any hm ?_
  simpa using draw3_wp hV hK hlex htail hfl hpure hn1 hrel hinF hkp hrs hend
theorem indep_reg {l0 : List AO} {F : List Nat} {n1 : Nat} {tm : Tm} {rs : List Rec} (hn : ∀ f ∈ F, f < n1) (h : (F.all fun f => match ops[f]? with | some o => isReg o | none => true) = true) (hg : ∀ (f : Nat) o, f ∈ F → ops[f]? = some o → o.guard = none) (hrs : RecsOk V n ops l0 (ops.take n1) 0 tm 0 rs) :
    ∀ (f : Nat) o x, f ∈ F → ops[f]? = some o → rs[f]? = some x → Indep V true l0 o x := by
  intro f o x hf ho hx
  have hreg : isReg o = true := by have := List.all_eq_true.1 h f hf; rw [ho] at this; exact this
  obtain ⟨hrec, _⟩ := hrs.at_ f o x (by rw [List.getElem?_take, if_pos (hn f hf)]; exact ho) hx
  have hpc : x.pc = [] := hrec.gnone (hg f o hf ho)
  have hres := hrec.res (by rw [hpc]; trivial)
  have hnn : x.new = none := by
    cases hq : x.new with
    | none => rfl
    | some b =>
      have := evalOp_reg_eff (V := V) (ρ := fun y => (strip x.pc (evT x.tm y)).1) (l := l0) (nid := x.nid) hreg b
      rw [hres, hq] at this; exact absurd rfl this
  refine ⟨hnn, fun _ hob l' _ => ?_⟩
  rw [hnn] at hres
  exact (evalOp_reg (V := V) (ρ := fun y => (strip x.pc (evT x.tm y)).1) (l := l0) (l' := l') (nid := x.nid) (nid' := 0) hreg (by rw [hres]) (by rw [hres]; exact hob)).trans hres
theorem draw2ucore (hV : VOk P V) (hm : P.follows .mixedOrders = true) (hK : ∀ s a w, K s → Rel w0 I0 n s a w → Q .normal a w) {id : Nat} {s : St} {a : Act} {w : World} {n1 : Nat} {F : List Nat} (hlex : lexOk ops = true) (htail : tailOk2 ops n1 F = true) (hfl : floatOk ops n1 F = true) (hpure : pureOk ops n1 = true) (hn1 : n1 ≤ ops.length)
    (hrel : Rel w0 I0 n s a w) {rs : List Rec} (hrs : RecsOk V n ops s.l (ops.take n1) 0 s.t ([] : List (Nat × AO)).length rs) (hend : Run P n ops (ops.drop n1) ⟨tmOf s.t (ops.take n1) rs, s.l ++ (([] : List (Nat × AO)) ++ newsOf 0 rs).map (·.2)⟩ K) : (Code.region id ops.toArray true).wpIn RnF 0 P Q a w := by
  unfold floatOk at hfl
  rw [Bool.and_eq_true] at hfl
  exact draw3_core hV hm hK hlex htail hfl.2 hpure hn1 hrel (B := true) (indep_reg (fun f hf => (float_at hfl.2 hf).1) hfl.1 (fun f o hf ho => ((float_at hfl.2 hf).2 o ho).1) (by simpa using hrs)) (.inl rfl) hrs hend
def floatOk3 (ops : List Oper) (n1 : Nat) (F : List Nat) : Bool := (F.all fun f => match ops[f]? with | some o => isFl o | none => true) && floatOk0 ops n1 F && ((List.range ops.length).all fun i => decide (i < n1) || match ops[i]? with | some o => keepsV o | none => true)
def floatPtr (t : Tm) (ops : List Oper) (n1 : Nat) (F : List Nat) : Bool := F.all fun f => match ops[f]? with
  | some o => (match o.op with
    | .load _ (.tmp p) => (match get t p with | .rptr .. => false | .cond .. => false | _ => true) && (ops.take n1).all fun q => q.dst != some p
    | .load .. => false
    | _ => true)
  | none => true
theorem indep_fl {l0 : List AO} {F : List Nat} {n1 : Nat} {tm : Tm} {rs : List Rec} (hn : ∀ f ∈ F, f < n1) (hn1 : n1 ≤ ops.length) (h : (F.all fun f => match ops[f]? with | some o => isFl o | none => true) = true) (hp : floatPtr tm ops n1 F = true) (hg : ∀ (f : Nat) o, f ∈ F → ops[f]? = some o → o.guard = none) (hrs : RecsOk V n ops l0 (ops.take n1) 0 tm 0 rs) :
    ∀ (f : Nat) o x, f ∈ F → ops[f]? = some o → rs[f]? = some x → Indep V false l0 o x := by
  intro f o x hf ho hx
  have hfl : isFl o = true := by have := List.all_eq_true.1 h f hf; rw [ho] at this; exact this
  have hpo := List.all_eq_true.1 hp f hf
  simp only [ho] at hpo
  obtain ⟨hrec, htm, _⟩ := hrs.at_ f o x (by rw [List.getElem?_take, if_pos (hn f hf)]; exact ho) hx
  have hpc : x.pc = [] := hrec.gnone (hg f o hf ho)
  have hres := hrec.res (by rw [hpc]; trivial)
  have hnn : x.new = none := by
    cases hq : x.new with
    | none => rfl
    | some b =>
      have hk : keepsV o = true := by
        unfold isFl at hfl; unfold keepsV
        rw [Bool.or_eq_true] at hfl ⊢
        refine hfl.imp id fun h => ?_
        split at h <;> simp_all
      have := (keepsV_eff (V := V) (ρ := fun y => (strip x.pc (evT x.tm y)).1) (l := l0) (nid := x.nid) hk).2 b
      rw [hres, hq] at this; exact absurd rfl this
  refine ⟨hnn, fun _ hob l' hl => ?_⟩
  rw [hnn] at hres
  refine (evalOp_fl (V := V) (ρ := fun y => (strip x.pc (evT x.tm y)).1) (l := l0) (l' := l') (nid := x.nid) (nid' := 0) hfl ?_ (hl.resolve_left (by simp)) (by rw [hres]) (by rw [hres]; exact hob)).trans hres
  unfold noRow
  split
  · rename_i t a hop
    rw [hop] at hpo
    cases a with
    | tmp p =>
      simp only [Bool.and_eq_true] at hpo
      obtain ⟨h1, h2⟩ := hpo
      have hgx : get x.tm p = get tm p := by
        rw [htm]
        refine get_tmOf_other _ _ _ p fun q hq hd => ?_
        have := List.all_eq_true.1 h2 q (List.mem_of_mem_take hq)
        rw [hd] at this; simp at this
      rw [hpc]
      show (match (strip [] (get x.tm p)).1 with | .rptr .. => false | _ => true) = true
      rw [hgx]
      cases hq : get tm p <;> rw [hq] at h1 <;> simp_all [strip]
    | _ => cases hpo
  · rfl
end
end Go.Eva
namespace Go.Eva
open Go Go.RowKit
variable [Drw] [Rnd]
def posIn (p : List Nat) (j : Nat) : Nat := p.findIdx (· == j)
def reOp (p : List Nat) (o : Oper) : Oper := { o with after := (o.after.toList.map fun e => { e with on := posIn p e.on }).toArray, guard := o.guard.map fun x => (posIn p x.1, x.2) }
def permOps (p : List Nat) (ops : List Oper) : List Oper := p.filterMap fun i => (ops[i]?).map (reOp p)
def permOk (p : List Nat) (n : Nat) : Bool := decide (p.length = n) && ((List.range n).all fun i => p.contains i) && (p.all fun i => decide (i < n)) && (List.range n).all fun i => posIn p (p.getD i 0) == i
theorem posIn_inj {p : List Nat} {i j : Nat} (hi : i ∈ p) (h : posIn p i = posIn p j) : i = j := by
  have h1 : posIn p i < p.length := List.findIdx_lt_length_of_exists ⟨i, hi, by simp⟩
  have e1 : p[posIn p i] = i := by
    have := List.findIdx_getElem (p := fun x => x == i) (xs := p) (w := h1)
    exact LawfulBEq.eq_of_beq this
  have h2 : posIn p j < p.length := h ▸ h1
  have e2 : p[posIn p j] = j := by
    have := List.findIdx_getElem (p := fun x => x == j) (xs := p) (w := h2)
    exact LawfulBEq.eq_of_beq this
  rw [← e1, ← e2]; congr 1
theorem permOps_len {p : List Nat} {ops : List Oper} (hp : ∀ i ∈ p, i < ops.length) : permOps p ops = p.pmap (fun i h => reOp p (ops[i]'h)) hp := by
  unfold permOps
  generalize hq : p = q at *
  have : ∀ (r : List Nat) (hr : ∀ i ∈ r, i < ops.length), (r.filterMap fun i => (ops[i]?).map (reOp q)) = r.pmap (fun i h => reOp q (ops[i]'h)) hr := by
    intro r
    induction r with
    | nil => intro _; rfl
    | cons x r ih =>
      intro hr
      have hx := hr x (by simp)
      rw [List.filterMap_cons]
      simp only [List.getElem?_eq_getElem hx, Option.map_some, List.pmap_cons]
      rw [ih]
  exact this q hp
theorem permOk_spec {p : List Nat} {n : Nat} (h : permOk p n = true) : p.length = n ∧ (∀ i, i < n → i ∈ p) ∧ (∀ i ∈ p, i < n) ∧ ∀ i (hi : i < p.length), posIn p p[i] = i := by
  simp only [permOk, Bool.and_eq_true, decide_eq_true_eq, List.all_eq_true, List.mem_range, List.contains_iff_mem, beq_iff_eq] at h
  obtain ⟨⟨⟨h1, h2⟩, h3⟩, h4⟩ := h
  refine ⟨h1, h2, h3, fun i hi => ?_⟩
  have := h4 i (by omega)
  rwa [List.getD_eq_getElem?_getD, List.getElem?_eq_getElem hi] at this
section
variable {P : Program} {ops : List Oper} {Q : Exit → Act → World → Prop} {p : List Nat}
theorem perm_get (hp : permOk p ops.length = true) {i : Nat} {o : Oper} (ho : ops[i]? = some o) : (permOps p ops)[posIn p i]? = some (reOp p o) := by
  replace hp := permOk_spec hp
  have hi := (List.getElem?_eq_some_iff.1 ho).1
  have hb := hp.2.2.1
  rw [permOps_len hb]
  have h1 : posIn p i < p.length := List.findIdx_lt_length_of_exists ⟨i, hp.2.1 i hi, by simp⟩
  have e1 : p[posIn p i] = i := by
    have := List.findIdx_getElem (p := fun x => x == i) (xs := p) (w := h1)
    exact LawfulBEq.eq_of_beq this
  rw [List.getElem?_eq_getElem (by simpa using h1)]
  simp only [List.getElem_pmap, Option.some.injEq]
  congr 1
  have := (List.getElem?_eq_some_iff.1 ho).2
  rw [← this]; congr 1
theorem permOps_length (hp : permOk p ops.length = true) : (permOps p ops).length = ops.length := by
  replace hp := permOk_spec hp
  rw [permOps_len hp.2.2.1]; simp [hp.1]
theorem posIn_lt (hp : permOk p ops.length = true) {i : Nat} : posIn p i < ops.length ↔ i < ops.length := by
  replace hp := permOk_spec hp
  constructor
  · intro h
    have h1 : posIn p i < p.length := by omega
    have := List.findIdx_getElem (p := fun x => x == i) (xs := p) (w := h1)
    have := LawfulBEq.eq_of_beq this
    exact hp.2.2.1 i (this ▸ List.getElem_mem _)
  · intro h
    have : posIn p i < p.length := List.findIdx_lt_length_of_exists ⟨i, hp.2.1 i h, by simp⟩
    omega
theorem perm_ready (hp : permOk p ops.length = true) {listed listed' : Array Bool} (h1 : listed.size = ops.length) (h2 : listed'.size = ops.length) (hl : ∀ i, listed'.getD (posIn p i) false = listed.getD i false) {i : Nat} :
    posIn p i ∈ Region.ready .any (permOps p ops).toArray listed' ↔ i ∈ Region.ready .any ops.toArray listed := by
  rw [mem_ready, mem_ready]
  by_cases hi : i < ops.length
  · have hi' := (posIn_lt hp).2 hi
    rw [getD_tf h1 hi, getD_tf h2 hi', hl]
    have ho : ops[i]? = some ops[i] := List.getElem?_eq_getElem hi
    have ho' := perm_get hp ho
    simp only [List.getElem?_toArray, ho, ho', Option.some.injEq, exists_eq_left']
    refine and_congr_right fun _ => ?_
    unfold reOp
    simp only [List.mem_toArray, List.mem_map, Array.mem_toList_iff]
    constructor
    · intro h e he hb
      rw [← hl]
      exact h _ ⟨e, he, rfl⟩ hb
    · rintro h _ ⟨e, he, rfl⟩ hb
      show listed'.getD (posIn p e.on) false = true
      rw [hl]; exact h e he hb
  · have hi' : ¬ posIn p i < ops.length := fun h => hi ((posIn_lt hp).1 h)
    constructor
    · rintro ⟨_, o, ho, _⟩
      have := (Array.getElem?_eq_some_iff.1 ho).1
      simp [permOps_length hp] at this; omega
    · rintro ⟨_, o, ho, _⟩
      have := (Array.getElem?_eq_some_iff.1 ho).1
      simp at this; omega
theorem perm_yielded (hp : permOk p ops.length = true) (tmps : Array Value) (j : Nat) : yielded (permOps p ops).toArray tmps (posIn p j) = yielded ops.toArray tmps j := by
  unfold yielded
  by_cases hj : j < ops.length
  · have ho : ops[j]? = some ops[j] := List.getElem?_eq_getElem hj
    have ho' := perm_get hp ho
    simp only [List.getElem?_toArray, ho, ho', reOp, Option.bind_some]
  · have hj' : ¬ posIn p j < ops.length := fun h => hj ((posIn_lt hp).1 h)
    simp only [List.getElem?_toArray]
    rw [List.getElem?_eq_none (by rw [permOps_length hp]; omega), List.getElem?_eq_none (by omega)]
theorem wpAny_perm (hp : permOk p ops.length = true) : ∀ (fuel : Nat) (listed listed' : Array Bool) (a : Act) (w : World), listed.size = ops.length → listed'.size = ops.length → (∀ i, listed'.getD (posIn p i) false = listed.getD i false) →
    wpAnyIn RnF 0 P .any (permOps p ops).toArray Q fuel listed' a w → wpAnyIn RnF 0 P .any ops.toArray Q fuel listed a w := by
  have hnil : ∀ {listed listed' : Array Bool}, listed.size = ops.length → listed'.size = ops.length → (∀ i, listed'.getD (posIn p i) false = listed.getD i false) → (Region.ready .any (permOps p ops).toArray listed' = [] ↔ Region.ready .any ops.toArray listed = []) := by
    intro listed listed' h1 h2 hl
    rw [List.eq_nil_iff_forall_not_mem, List.eq_nil_iff_forall_not_mem]
    constructor
    · exact fun h i hi => h _ ((perm_ready hp h1 h2 hl).2 hi)
    · intro h i hi
      have hlt : i < ops.length := by have := ready_lt hi; rwa [permOps_length hp] at this
      have hpp : permOk p ops.length = true := hp
      replace hp := permOk_spec hp
      -- i is the place of something
      have hex : ∃ j, j < ops.length ∧ posIn p j = i := by
        have hip : i < p.length := by omega
        exact ⟨p[i], hp.2.2.1 _ (List.getElem_mem _), hp.2.2.2 i hip⟩
      obtain ⟨j, hj, rfl⟩ := hex
      exact h j ((perm_ready hpp h1 h2 hl).1 hi)
  intro fuel
  induction fuel with
  | zero =>
    intro listed listed' a w h1 h2 hl h
    exact ⟨(hnil h1 h2 hl).1 h.1, h.2⟩
  | succ fuel ih =>
    intro listed listed' a w h1 h2 hl h
    refine ⟨fun h0 => h.1 ((hnil h1 h2 hl).2 h0), fun i hi => ?_⟩
    have hlt := ready_lt hi
    have hw := h.2 _ ((perm_ready hp h1 h2 hl).2 hi)
    have ho : ops[i]? = some ops[i] := List.getElem?_eq_getElem hlt
    have ho' := perm_get hp ho
    have hstep : wpOpIn RnF 0 P ops.toArray Q i (wpAnyIn RnF 0 P .any (permOps p ops).toArray Q fuel (listed'.setIfInBounds (posIn p i) true)) a w := by
      unfold wpOpIn at hw ⊢
      simp only [List.getElem?_toArray, ho, ho'] at hw ⊢
      have hwant : Region.wanted (reOp p ops[i]) (yielded (permOps p ops).toArray a.tmps) = Region.wanted ops[i] (yielded ops.toArray a.tmps) := by
        unfold Region.wanted
        cases hg : ops[i].guard with
        | none => simp [reOp, hg]
        | some x => obtain ⟨j, b⟩ := x; simp only [reOp, hg, Option.map_some, perm_yielded hp]
      rw [hwant] at hw
      split
      · rename_i hh; rw [if_pos hh] at hw; exact hw
      · rename_i hh; rw [if_neg hh] at hw; exact hw
    refine wpOpIn_mono (fun a w hk => ih _ _ a w (by simp [h1]) (by simp [h2]) (fun k => ?_) hk) hstep
    rw [getD_set h1 hlt, getD_set h2 ((posIn_lt hp).2 hlt), hl]
    by_cases hk : k = i
    · subst hk; simp
    · rw [if_neg hk, if_neg]
      intro e
      replace hp := permOk_spec hp
      exact hk (posIn_inj (hp.2.1 i hlt) e.symm).symm
end
section
variable {P : Program} {V : Env} {w0 : World} {I0 : Imm} {n : Nat} {md : Way} {ops : List Oper} {Q : Exit → St → Prop} {K : St → Prop} {s : St}
def drawOk3 (ops : List Oper) (n1 : Nat) (F : List Nat) : Bool := lexOk ops && tailOk2 ops n1 F && floatOk3 ops n1 F && pureOk ops n1 && decide (n1 ≤ ops.length)
theorem evalDraw_ok3 (hV : VOk P V) (hm : P.follows .mixedOrders = true) {Q : Exit → Act → World → Prop} (hK : ∀ s a w, K s → Rel w0 I0 n s a w → Q .normal a w) {id : Nat} {a : Act} {w : World} (p : List Nat) (n1 : Nat) (F : List Nat) (hp : permOk p ops.length = true) (hd : drawOk3 (permOps p ops) n1 F = true) (hptr : floatPtr s.t (permOps p ops) n1 F = true) (hrel : Rel w0 I0 n s a w)
    (h : evalPure V n (permOps p ops) md s.l ((permOps p ops).take n1) 0 s.t [] fun tm news => evalSeq V n (permOps p ops) md ((permOps p ops).drop n1) ⟨tm, s.l ++ news.map (·.2)⟩ K) : (Code.region id ops.toArray true).wpIn RnF 0 P Q a w := by
  simp only [drawOk3, Bool.and_eq_true, decide_eq_true_eq] at hd
  obtain ⟨⟨⟨⟨hlex, htail⟩, hfl⟩, hpure⟩, hn1⟩ := hd
  simp only [floatOk3, Bool.and_eq_true] at hfl
  obtain ⟨⟨hf1, hf2⟩, hf3⟩ := hfl
  obtain ⟨rs, hrs, hend⟩ := evalPure_recs _ _ _ _ h
  replace hend := Run.of hV hend
  refine wpIn_region_any hm ?_
  have hwp := draw3_wp (Q := Q) (K := K) hV hK hlex htail hf2 hpure hn1 hrel (B := false) (indep_fl (fun f hf => (float_at hf2 hf).1) hn1 hf1 hptr (fun f o hf ho => ((float_at hf2 hf).2 o ho).1) (by simpa using hrs)) (.inr fun i o hi ho => by
    have := List.all_eq_true.1 hf3 i (List.mem_range.2 (List.getElem?_eq_some_iff.1 ho).1)
    rw [ho] at this
    simp only [Bool.or_eq_true, decide_eq_true_eq] at this
    exact this.resolve_left (by omega)) hrs hend
  have hz : ∀ (N k : Nat), (Array.replicate N false).getD k false = false := fun N k => by
    rw [Array.getD_eq_getD_getElem?]
    cases hx : (Array.replicate N false)[k]? with
    | none => rfl
    | some b => have := Array.getElem?_eq_some_iff.1 hx; simp at this; simp [← this.2]
  have := wpAny_perm hp ops.length (Array.replicate ops.length false) (Array.replicate ops.length false) _ _ (by simp) (by simp) (fun i => by rw [hz, hz]) (by rw [permOps_length hp] at hwp; exact hwp)
  simpa using this
end
end Go.Eva
namespace Go.Eva
open Go Go.RowKit
variable [Drw] [Rnd]
abbrev Spec := List D → Option (D × Prop)
def cfind : List (FuncId × Spec) → CEnv
  | [], _, _ => none
  | (g, S) :: r, f, ds => if g = f then S ds else cfind r f ds
structure SpecOk (P : Program) (f : FuncId) (S : Spec) : Prop where
  enters : Enters P f
  con : ∀ ds r ob, S ds = some (r, ob) → ob → PureCon P f ds r
def Specs (P : Program) : List (FuncId × Spec) → Prop
  | [] => True
  | (f, S) :: r => SpecOk P f S ∧ Specs P r
theorem Specs.ok {P : Program} : ∀ {tab : List (FuncId × Spec)}, Specs P tab → COk P (cfind tab)
  | [], _, f, ds, r, ob, h, _ => by simp [cfind] at h
  | (g, S) :: tab, hs, f, ds, r, ob, h, hob => by
    obtain ⟨h1, h2⟩ := hs
    simp only [cfind] at h
    split at h
    · rename_i hg; subst hg; exact ⟨h1.enters, h1.con ds r ob h hob⟩
    · exact Specs.ok h2 f ds r ob h hob
def lfFind (tab : List (Nat × List Lf)) : TypeId → Option (List Lf) := fun t => (tab.find? fun p => p.1 == t).map (·.2)
def drawOk (ops : List Oper) (n1 : Nat) : Bool := lexOk ops && tailOk ops n1 && pureOk ops n1 && decide (n1 ≤ ops.length)
section
variable {P : Program} {V : Env} {w0 : World} {I0 : Imm} {n : Nat} {md : Way} {Q : Exit → St → Prop} {s : St} {y : Code} {ops : List Oper} {K : St → Prop}
theorem evalDraw_ok' (hV : VOk P V) (hm : P.follows .mixedOrders = true) {Q : Exit → Act → World → Prop} (hK : ∀ s a w, K s → Rel w0 I0 n s a w → Q .normal a w) {id : Nat} {s : St} {a : Act} {w : World} (n1 : Nat) (hd : drawOk ops n1 = true) (hrel : Rel w0 I0 n s a w)
    (h : evalPure V n ops md s.l (ops.take n1) 0 s.t [] fun tm news => evalSeq V n ops md (ops.drop n1) ⟨tm, s.l ++ news.map (·.2)⟩ K) : (Code.region id ops.toArray true).wpIn RnF 0 P Q a w := by
  simp only [drawOk, Bool.and_eq_true, decide_eq_true_eq] at hd
  obtain ⟨⟨⟨hlex, htail⟩, hpure⟩, hn1⟩ := hd
  obtain ⟨rs, hrs, hend⟩ := evalPure_recs _ _ _ _ h
  exact draw_core hV hm hK hlex htail hpure hn1 hrel hrs hend
def drawOk2 (ops : List Oper) (n1 : Nat) (F : List Nat) : Bool := lexOk ops && tailOk2 ops n1 F && floatOk ops n1 F && pureOk ops n1 && decide (n1 ≤ ops.length)
theorem evalDraw_ok2 (hV : VOk P V) (hm : P.follows .mixedOrders = true) {Q : Exit → Act → World → Prop} {K : St → Prop} (hK : ∀ s a w, K s → Rel w0 I0 n s a w → Q .normal a w) {id : Nat} {s : St} {a : Act} {w : World} (n1 : Nat) (F : List Nat) (hd : drawOk2 ops n1 F = true) (hrel : Rel w0 I0 n s a w)
    (h : evalPure V n ops md s.l (ops.take n1) 0 s.t [] fun tm news => evalSeq V n ops md (ops.drop n1) ⟨tm, s.l ++ news.map (·.2)⟩ K) : (Code.region id ops.toArray true).wpIn RnF 0 P Q a w := by
  simp only [drawOk2, Bool.and_eq_true, decide_eq_true_eq] at hd
  obtain ⟨⟨⟨⟨hlex, htail⟩, hfl⟩, hpure⟩, hn1⟩ := hd
  obtain ⟨rs, hrs, hend⟩ := evalPure_recs _ _ _ _ h
  exact draw2ucore hV hm hK hlex htail hfl hpure hn1 hrel hrs (Run.of hV hend)
theorem evalDraw_run (hV : VOk P V) (hm : P.follows .mixedOrders = true) {Q : Exit → Act → World → Prop} {K : St → Prop} (hK : ∀ s a w, K s → Rel w0 I0 n s a w → Q .normal a w) {id : Nat} {s : St} {a : Act} {w : World} (n1 : Nat) (F : List Nat) (hd : drawOk2 ops n1 F = true) (hrel : Rel w0 I0 n s a w)
    (h : evalPure V n ops md s.l (ops.take n1) 0 s.t [] fun tm news => Run P n ops (ops.drop n1) ⟨tm, s.l ++ news.map (·.2)⟩ K) : (Code.region id ops.toArray true).wpIn RnF 0 P Q a w := by
  simp only [drawOk2, Bool.and_eq_true, decide_eq_true_eq] at hd
  obtain ⟨⟨⟨⟨hlex, htail⟩, hfl⟩, hpure⟩, hn1⟩ := hd
  obtain ⟨rs, hrs, hend⟩ := evalPure_recs _ _ _ _ h
  exact draw2ucore hV hm hK hlex htail hfl hpure hn1 hrel hrs hend
theorem AWp.drawFm (hV : VOk P V) (hm : P.follows .mixedOrders = true) (n1 : Nat) (F : List Nat) {id : Nat} (hd : drawOk2 ops n1 F = true)
    (h : evalPure V n ops md s.l (ops.take n1) 0 s.t [] fun tm news => evalSeq V n ops md (ops.drop n1) ⟨tm, s.l ++ news.map (·.2)⟩ (Q .normal)) : AWp P w0 I0 n (.region id ops.toArray true) s Q := fun a w hr =>
  evalDraw_ok2 (Q := fun e a' w' => ∃ s', Q e s' ∧ Rel w0 I0 n s' a' w') (K := Q .normal) hV hm (fun s _ _ h1 h2 => ⟨s, h1, h2⟩) n1 F hd hr h
theorem AWp.drawF (hV : VOk P V) (hm : P.follows .mixedOrders = true) (n1 : Nat) (F : List Nat) {id : Nat} (hd : drawOk2 ops n1 F = true)
    (h : evalPure V n ops none s.l (ops.take n1) 0 s.t [] fun tm news => evalSeq V n ops none (ops.drop n1) ⟨tm, s.l ++ news.map (·.2)⟩ (Q .normal)) : AWp P w0 I0 n (.region id ops.toArray true) s Q := fun a w hr =>
  evalDraw_ok2 (Q := fun e a' w' => ∃ s', Q e s' ∧ Rel w0 I0 n s' a' w') (K := Q .normal) hV hm (fun s _ _ h1 h2 => ⟨s, h1, h2⟩) n1 F hd hr h
theorem AWp.drawKm (hV : VOk P V) (hm : P.follows .mixedOrders = true) (n1 : Nat) {id : Nat} (hd : drawOk ops n1 = true)
    (h : evalPure V n ops md s.l (ops.take n1) 0 s.t [] fun tm news => evalSeq V n ops md (ops.drop n1) ⟨tm, s.l ++ news.map (·.2)⟩ (Q .normal)) : AWp P w0 I0 n (.region id ops.toArray true) s Q := fun a w hr =>
  evalDraw_ok' (Q := fun e a' w' => ∃ s', Q e s' ∧ Rel w0 I0 n s' a' w') (K := Q .normal) hV hm (fun s _ _ h1 h2 => ⟨s, h1, h2⟩) n1 hd hr h
theorem AWp.drawK (hV : VOk P V) (hm : P.follows .mixedOrders = true) (n1 : Nat) {id : Nat} (hd : drawOk ops n1 = true)
    (h : evalPure V n ops none s.l (ops.take n1) 0 s.t [] fun tm news => evalSeq V n ops none (ops.drop n1) ⟨tm, s.l ++ news.map (·.2)⟩ (Q .normal)) : AWp P w0 I0 n (.region id ops.toArray true) s Q := fun a w hr =>
  evalDraw_ok' (Q := fun e a' w' => ∃ s', Q e s' ∧ Rel w0 I0 n s' a' w') (K := Q .normal) hV hm (fun s _ _ h1 h2 => ⟨s, h1, h2⟩) n1 hd hr h
theorem AWp.seqDK (hV : VOk P V) (hm : P.follows .mixedOrders = true) (n1 : Nat) {id : Nat} (hd : drawOk ops n1 = true)
    (h : evalPure V n ops none s.l (ops.take n1) 0 s.t [] fun tm news => evalSeq V n ops none (ops.drop n1) ⟨tm, s.l ++ news.map (·.2)⟩ (fun s' => AWp P w0 I0 n y s' Q)) : AWp P w0 I0 n ((Code.region id ops.toArray true).seq y) s Q :=
  AWp.seq (AWp.drawK hV hm n1 hd h)
def T.low1 (k : Nat) : T → Bool
  | .d _ => true
  | .ptr id _ => decide (id < k)
  | .yld id => decide (id < k)
  | _ => false
def T.lows (k : Nat) : T → Bool
  | .ptr id _ => decide (id < k)
  | .row id => decide (id < k)
  | .rptr id _ _ => decide (id < k)
  | .map id => decide (id < k)
  | .yld id => decide (id < k)
  | .sub id _ _ => decide (id < k)
  | .tup ts => ts.all fun t => match t with | .d _ => true | _ => false
  | .cond _ t => match t with | .d _ => true | _ => false
  | .clo _ ts => ts.all (T.low1 k)
  | .agg ts => ts.all fun t => match t with | .d _ => true | _ => false
  | _ => true
def AO.lows (k : Nat) : AO → Bool
  | .var _ cs => cs.all (T.lows k)
  | .frame b _ _ => decide (b ≤ k)
  | .loop b _ _ _ _ _ _ _ => decide (b ≤ k)
  | _ => true
theorem RdT.cut {I : Imm} {m : Nat → Value} {l : List AO} {k : Nat} (hk : k ≤ l.length) {v : Value} {t : T} (h : RdT I m l v t) (hb : t.lows k = true) : RdT I m (l.take k) v t := by
  have hget : ∀ id, id < k → (l.take k)[id]? = l[id]? := fun id hid => by rw [List.getElem?_take, if_pos hid]
  have hv : ∀ id, id < k → isVar (l.take k) id = isVar l id := fun id hid => by unfold isVar; rw [hget id hid]
  have hr : ∀ id, id < k → isRow (l.take k) id = isRow l id := fun id hid => by unfold isRow; rw [hget id hid]
  have data : ∀ {v : Value} {t : T}, RdT I m l v t → (match t with | .d _ => true | _ => false) = true → RdT I m (l.take k) v t := by
    intro v t h hb
    cases h <;> simp at hb
    exact .d _ _ (by assumption)
  cases h with
  | undef => exact .undef _
  | d v x hx => exact .d _ _ hx
  | nils s => exact .nils _
  | ptr id b off h1 h2 => simp [T.lows] at hb; exact .ptr id b off ((hv id hb).trans h1) h2
  | eptr b o size els q off val h1 h2 h3 h4 => exact .eptr b o size els q off val h1 h2 h3 h4
  | yld id b h1 h2 => simp [T.lows] at hb; exact .yld id b ((hv id hb).trans h1) h2
  | row A n c id h1 h2 => simp [T.lows] at hb; exact .row A n c id (by rw [List.length_take]; omega) (fun hl => h2 ((hr id hb).symm.trans hl))
  | rptr a id q off h1 h2 => simp [T.lows] at hb; exact .rptr a id q off (by rw [List.length_take]; omega) (fun e size els hl => h2 e size els (by rw [hget id hb] at hl; exact hl))
  | sub A n c id lo hi h1 h2 => simp [T.lows] at hb; exact .sub A n c id lo hi (by rw [List.length_take]; omega) (fun e size els hl => h2 e size els (by rw [hget id hb] at hl; exact hl))
  | map r id h1 h2 => simp [T.lows] at hb; exact .map r id (by rw [List.length_take]; omega) (fun hl => h2 ((hr id hb).symm.trans hl))
  | tup vs ts h1 h2 =>
    refine .tup vs ts h1 fun i v t hv ht => data (h2 i v t hv ht) ?_
    simp only [T.lows, List.all_eq_true] at hb
    exact hb t (List.mem_of_getElem? ht)
  | cond v pc t h1 h2 => exact .cond v pc t (fun hp => data (h1 hp) hb) h2
  | clo g vs ts h1 h2 =>
    refine .clo g vs ts h1 fun i v t hv' ht => ?_
    simp only [T.lows, List.all_eq_true] at hb
    have hb1 := hb t (List.mem_of_getElem? ht)
    have h3 := h2 i v t hv' ht
    cases h3 with
    | d v x hx => exact .d _ _ hx
    | ptr id b off q1 q2 => simp [T.low1] at hb1; exact .ptr id b off ((hv id hb1).trans q1) q2
    | yld id b q1 q2 => simp [T.low1] at hb1; exact .yld id b ((hv id hb1).trans q1) q2
    | _ => simp [T.low1] at hb1
  | agg vs ts h1 h2 h3 =>
    refine .agg vs ts h1 h2 fun i v t hv ht => data (h3 i v t hv ht) ?_
    simp only [T.lows, List.all_eq_true] at hb
    exact hb t (List.mem_of_getElem? ht)
theorem WRel.cut {w0 w : World} {I0 I : Imm} {m : Nat → Value} {l : List AO} {k : Nat} (h : WRel w0 I0 w I m l) (hk : k ≤ l.length) (hb : (l.take k).all (AO.lows k) = true) : WRel w0 I0 w I m (l.take k) := by
  have hget : ∀ id, id < k → (l.take k)[id]? = l[id]? := fun id hid => by rw [List.getElem?_take, if_pos hid]
  have hlt : ∀ {id : Nat} {o : AO}, (l.take k)[id]? = some o → id < k ∧ l[id]? = some o := by
    intro id o ho
    have : id < k := by have := (List.getElem?_eq_some_iff.1 ho).1; rw [List.length_take] at this; omega
    exact ⟨this, by rw [← hget id this]; exact ho⟩
  refine ⟨h.below, h.sat, h.ext, fun id o ho => ?_, fun i j b hij hi hj => ?_⟩
  · obtain ⟨h1, h2⟩ := hlt ho
    have := h.obj id o h2
    cases o with
    | var ty cs =>
      obtain ⟨b, vs, q1, q2, q3, q4, q5, q6⟩ := this
      refine ⟨b, vs, q1, q2, q3, q4, fun i x t hx ht => ⟨(q5 i x t hx ht).1.cut hk ?_, (q5 i x t hx ht).2⟩, q6⟩
      have := List.all_eq_true.1 hb _ (List.mem_of_getElem? ho)
      simp only [AO.lows, List.all_eq_true] at this
      exact this t (List.mem_of_getElem? ht)
    | dead => trivial
    | row e size els => exact this
    | frow e size els => exact this
    | map ks vs => exact this
    | fmap ks vs => exact this
    | iter ks vs done => exact this
    | frame b vals t =>
      have hbk := List.all_eq_true.1 hb _ (List.mem_of_getElem? ho)
      simp only [AO.lows, decide_eq_true_eq] at hbk
      refine ⟨this.1, by rw [List.length_take]; have := this.2.1; omega, fun j => ?_⟩
      rw [List.take_take, Nat.min_eq_left hbk]
      exact this.2.2 j
    | loop b n ps asg body t st pend =>
      have hbk := List.all_eq_true.1 hb _ (List.mem_of_getElem? ho)
      simp only [AO.lows, decide_eq_true_eq] at hbk
      obtain ⟨b', r, q0, q1, q2, q3, q4, q5, q6⟩ := this
      refine ⟨b', r, q0, q1, q2, q3, by rw [List.length_take]; omega, fun j => ?_, q6⟩
      rw [List.take_take, Nat.min_eq_left hbk]
      exact q5 j
  · obtain ⟨o1, q1, d1⟩ := alive_iff.1 hi
    obtain ⟨o2, q2, d2⟩ := alive_iff.1 hj
    exact h.sep i j b hij (alive_iff.2 ⟨o1, (hlt q1).2, d1⟩) (alive_iff.2 ⟨o2, (hlt q2).2, d2⟩)
def forgets (s : Tm) : Tm → Prop
  | [] => True
  | (i, t) :: r => get s i = t ∧ forgets s r
theorem forgets_get {s : Tm} : ∀ {r : Tm}, forgets s r → ∀ k, get r k = .undef ∨ get r k = get s k
  | [], _, k => .inl rfl
  | (i, t) :: r, h, k => by
    simp only [get]
    by_cases hi : i = k
    · subst hi; rw [if_pos rfl]; exact .inr h.1.symm
    · rw [if_neg hi]; exact forgets_get h.2 k
theorem get_below {k : Nat} : ∀ {r : Tm}, r.all (fun p => T.lows k p.2) = true → ∀ j, T.lows k (get r j) = true
  | [], _, j => rfl
  | (i, t) :: r, h, j => by
    simp only [List.all_cons, Bool.and_eq_true] at h
    simp only [get]
    split
    · exact h.1
    · exact get_below h.2 j
theorem Sub.cut (k : Nat) {t' : Tm} (hk : k ≤ s.l.length) (hb : (s.l.take k).all (AO.lows k) = true) (ht : t'.all (fun p => T.lows k p.2) = true) (hf : forgets s.t t') : Sub s ⟨t', s.l.take k⟩ := by
  intro w0 I0 n a w hr
  obtain ⟨h1, I, m, h3, h2, h4⟩ := hr
  refine ⟨h1, I, m, h3.cut hk hb, h2, fun j => ?_⟩
  rcases forgets_get hf j with h | h
  · rw [h]; exact .undef _
  · rw [h]
    exact (h4 j).cut hk (by rw [← h]; exact get_below ht j)
theorem Sub.cut' (k : Nat) {t' : Tm} {l' : List AO} (hl : l' = s.l.take k) (hk : k ≤ s.l.length) (hb : (s.l.take k).all (AO.lows k) = true) (ht : t'.all (fun p => T.lows k p.2) = true) (hf : forgets s.t t') : Sub s ⟨t', l'⟩ := by
  subst hl; exact Sub.cut k hk hb ht hf
end
end Go.Eva
namespace Go.Eva
open Go Go.RowKit
variable [Drw] [Rnd]
def idx (id : Nat) : List Nat → Nat → Option Nat
  | [], _ => none
  | x :: xs, k => if x = id then some k else idx id xs (k + 1)
theorem idx_get {id : Nat} : ∀ {xs : List Nat} {k j : Nat}, idx id xs k = some j → k ≤ j ∧ xs[j - k]? = some id
  | [], k, j, h => by simp [idx] at h
  | x :: xs, k, j, h => by
    simp only [idx] at h
    split at h
    · rename_i hx; cases h; simp [hx]
    · obtain ⟨h1, h2⟩ := idx_get h
      refine ⟨by omega, ?_⟩
      rw [show j - k = (j - (k + 1)) + 1 by omega]; simpa using h2
def T.data : T → Bool
  | .d _ => true
  | _ => false
def T.flat : T → Bool
  | .d _ => true
  | .ptr _ _ => true
  | .yld _ => true
  | _ => false
def T.ren1 (ids : List Nat) : T → T
  | .ptr id off => match idx id ids 0 with | some k => .ptr k off | none => .undef
  | .yld id => match idx id ids 0 with | some k => .yld k | none => .undef
  | t => t
def T.ren2 (ids : List Nat) : T → T
  | .ptr id off => match idx id ids 0 with | some k => .ptr k off | none => .undef
  | .row id => match idx id ids 0 with | some k => .row k | none => .undef
  | .rptr id k off => match idx id ids 0 with | some j => .rptr j k off | none => .undef
  | .map id => match idx id ids 0 with | some k => .map k | none => .undef
  | .yld id => match idx id ids 0 with | some k => .yld k | none => .undef
  | .sub id lo hi => match idx id ids 0 with | some k => .sub k lo hi | none => .undef
  | .clo g ts => if ts.all T.flat then .clo g (ts.map (T.ren1 ids)) else .undef
  | .tup _ => .undef
  | .cond _ _ => .undef
  | .agg _ => .undef
  | t => t
def T.ren (ids : List Nat) : T → T
  | .tup ts => if ts.all T.data then .tup ts else .undef
  | .cond pc t => if t.data then .cond pc t else .undef
  | .agg ts => .agg (ts.map (T.ren2 ids))
  | t => t.ren2 ids
def AO.ren (ids : List Nat) : AO → AO
  | .var ty cs => .var ty (cs.map (T.ren ids))
  | o => o
def renL (ids : List Nat) (l : List AO) : List AO := ids.map fun id => ((l[id]?).getD .dead).ren ids
theorem renL_get {ids : List Nat} {l : List AO} {k id : Nat} (h : ids[k]? = some id) : (renL ids l)[k]? = some (((l[id]?).getD .dead).ren ids) := by simp [renL, h]
theorem AO.ren_isVar (ids : List Nat) (o : AO) : (o.ren ids).isVar = o.isVar := by cases o <;> rfl
theorem AO.ren_isRow (ids : List Nat) (o : AO) : (o.ren ids).isRow = o.isRow := by cases o <;> rfl
theorem nodup_inj {ids : List Nat} (h : ids.Nodup) : ∀ {i j a : Nat}, ids[i]? = some a → ids[j]? = some a → i = j := by
  induction ids with
  | nil => intro i j a hi; simp at hi
  | cons x xs ih =>
    intro i j a hi hj
    rw [List.nodup_cons] at h
    rcases i with _ | i <;> rcases j with _ | j
    · rfl
    · simp at hi hj; subst hi; exact absurd (List.mem_of_getElem? hj) h.1
    · simp at hi hj; subst hj; exact absurd (List.mem_of_getElem? hi) h.1
    · simp at hi hj; rw [ih h.2 hi hj]
section
variable {P : Program} {V : Env} {w0 : World} {I0 : Imm} {n : Nat} {Q : Exit → St → Prop} {s : St}
theorem data_rd {I : Imm} {m m' : Nat → Value} {l l' : List AO} {v : Value} {t : T} (h : RdT I m l v t) (hb : t.data = true) : RdT I m' l' v t := by
  cases h <;> simp [T.data] at hb
  exact .d _ _ (by assumption)
theorem ren_isVar {ids : List Nat} {l : List AO} {k id : Nat} (h : ids[k]? = some id) : isVar (renL ids l) k = isVar l id := by
  unfold isVar; rw [renL_get h]; simp only [Option.map_some, Option.getD_some, AO.ren_isVar]
  cases l[id]? <;> rfl
theorem ren_isRow {ids : List Nat} {l : List AO} {k id : Nat} (h : ids[k]? = some id) : isRow (renL ids l) k = isRow l id := by
  unfold isRow; rw [renL_get h]; simp only [Option.map_some, Option.getD_some, AO.ren_isRow]
  cases l[id]? <;> rfl
theorem ren_row {ids : List Nat} {l : List AO} {k id e size : Nat} {els : List D} (h : ids[k]? = some id) (hr : (renL ids l)[k]? = some (.row e size els) ∨ (renL ids l)[k]? = some (.frow e size els)) : l[id]? = some (.row e size els) ∨ l[id]? = some (.frow e size els) := by
  rw [renL_get h] at hr
  cases hl : l[id]? with
  | none => rw [hl] at hr; simp [AO.ren] at hr
  | some o => rw [hl] at hr; cases o <;> simp_all [AO.ren]
theorem RdT.ren2 {I : Imm} {m m' : Nat → Value} {l : List AO} {ids : List Nat} (hm : ∀ k id, ids[k]? = some id → m' k = m id) {v : Value} {t : T} (h : RdT I m l v t) : RdT I m' (renL ids l) v (t.ren2 ids) := by
  have hlt : ∀ {k id : Nat}, ids[k]? = some id → k < (renL ids l).length := fun h => by rw [show (renL ids l).length = ids.length by simp [renL]]; exact (List.getElem?_eq_some_iff.1 h).1
  cases h with
  | undef => exact .undef _
  | d v x hx => exact .d _ _ hx
  | nils s => exact .nils _
  | ptr id b off h1 h2 =>
    simp only [T.ren2]
    split
    · rename_i k hk
      have hk := (idx_get hk).2; simp only [Nat.sub_zero] at hk
      exact .ptr k b off ((ren_isVar hk).trans h1) ((hm k id hk).trans h2)
    · exact .undef _
  | yld id b h1 h2 =>
    simp only [T.ren2]
    split
    · rename_i k hk
      have hk := (idx_get hk).2; simp only [Nat.sub_zero] at hk
      exact .yld k b ((ren_isVar hk).trans h1) ((hm k id hk).trans h2)
    · exact .undef _
  | eptr b o size els q off val h1 h2 h3 h4 => exact .eptr b o size els q off val h1 h2 h3 h4
  | row A n c id h1 h2 =>
    simp only [T.ren2]
    split
    · rename_i k hk
      have hk := (idx_get hk).2; simp only [Nat.sub_zero] at hk
      exact .row A n c k (hlt hk) fun hl => (hm k id hk).trans (h2 ((ren_isRow hk).symm.trans hl))
    · exact .undef _
  | rptr a id q off h1 h2 =>
    simp only [T.ren2]
    split
    · rename_i k hk
      have hk := (idx_get hk).2; simp only [Nat.sub_zero] at hk
      refine .rptr a k q off (hlt hk) fun e size els hl => ?_
      obtain ⟨b, n, c, q1, q2⟩ := h2 e size els (ren_row hk hl)
      exact ⟨b, n, c, (hm k id hk).trans q1, q2⟩
    · exact .undef _
  | sub A n c id lo hi h1 h2 =>
    simp only [T.ren2]
    split
    · rename_i k hk
      have hk := (idx_get hk).2; simp only [Nat.sub_zero] at hk
      refine .sub A n c k lo hi (hlt hk) fun e size els hl => ?_
      obtain ⟨A0, n0, c0, q1, q2⟩ := h2 e size els (ren_row hk hl)
      exact ⟨A0, n0, c0, (hm k id hk).trans q1, q2⟩
    · exact .undef _
  | map r id h1 h2 =>
    simp only [T.ren2]
    split
    · rename_i k hk
      have hk := (idx_get hk).2; simp only [Nat.sub_zero] at hk
      exact .map r k (hlt hk) fun hl => (hm k id hk).trans (h2 ((ren_isRow hk).symm.trans hl))
    · exact .undef _
  | tup vs ts h1 h2 => exact .undef _
  | cond v pc t h1 h2 => exact .undef _
  | agg vs ts h1 h2 h3 => exact .undef _
  | clo g vs ts h1 h2 =>
    simp only [T.ren2]
    split
    · rename_i hb
      refine .clo g vs _ (by simpa using h1) fun i v t hv ht => ?_
      rw [List.getElem?_map] at ht
      cases hti : ts[i]? with
      | none => rw [hti] at ht; cases ht
      | some t0 =>
        rw [hti] at ht; simp at ht; subst ht
        have h0 := h2 i v t0 hv hti
        have hf := List.all_eq_true.1 hb t0 (List.mem_of_getElem? hti)
        cases h0 with
        | d v x hx => exact .d _ _ hx
        | ptr id b off q1 q2 =>
          simp only [T.ren1]
          split
          · rename_i k hk
            have hk := (idx_get hk).2; simp only [Nat.sub_zero] at hk
            exact .ptr k b off ((ren_isVar hk).trans q1) ((hm k id hk).trans q2)
          · exact .undef _
        | yld id b q1 q2 =>
          simp only [T.ren1]
          split
          · rename_i k hk
            have hk := (idx_get hk).2; simp only [Nat.sub_zero] at hk
            exact .yld k b ((ren_isVar hk).trans q1) ((hm k id hk).trans q2)
          · exact .undef _
        | _ => simp [T.flat] at hf
    · exact .undef _
theorem RdT.ren {I : Imm} {m m' : Nat → Value} {l : List AO} {ids : List Nat} (hm : ∀ k id, ids[k]? = some id → m' k = m id) {v : Value} {t : T} (h : RdT I m l v t) : RdT I m' (renL ids l) v (t.ren ids) := by
  cases h with
  | tup vs ts h1 h2 =>
    simp only [T.ren]
    split
    · rename_i hb
      exact .tup vs ts h1 fun i v t hv ht => data_rd (h2 i v t hv ht) (List.all_eq_true.1 hb t (List.mem_of_getElem? ht))
    · exact .undef _
  | cond v pc t h1 h2 =>
    simp only [T.ren]
    split
    · rename_i hb
      exact .cond v pc t (fun hp => data_rd (h1 hp) hb) h2
    · exact .undef _
  | agg vs ts h1 h2 h3 =>
    refine .agg vs _ (by simpa using h1) h2 fun i v t hv ht => ?_
    rw [List.getElem?_map] at ht
    cases hti : ts[i]? with
    | none => rw [hti] at ht; cases ht
    | some t0 =>
      rw [hti] at ht; simp at ht; subst ht
      exact (h3 i v t0 hv hti).ren2 hm
  | undef => exact .undef _
  | d v x hx => exact .d _ _ hx
  | nils s => exact .nils _
  | ptr id b off q1 q2 => exact RdT.ren2 hm (.ptr id b off q1 q2)
  | eptr b o size els q off val q1 q2 q3 q4 => exact RdT.ren2 hm (.eptr b o size els q off val q1 q2 q3 q4)
  | row A n c id q1 q2 => exact RdT.ren2 hm (.row A n c id q1 q2)
  | rptr a id q off q1 q2 => exact RdT.ren2 hm (.rptr a id q off q1 q2)
  | map r id q1 q2 => exact RdT.ren2 hm (.map r id q1 q2)
  | yld id b q1 q2 => exact RdT.ren2 hm (.yld id b q1 q2)
  | sub A n c id lo hi q1 q2 => exact RdT.ren2 hm (.sub A n c id lo hi q1 q2)
  | clo g vs ts q1 q2 => exact RdT.ren2 hm (.clo g vs ts q1 q2)
def framesOk (ids : List Nat) (l : List AO) : Bool := ids.all fun id => match l[id]? with
  | some (.frame b _ _) | some (.loop b _ _ _ _ _ _ _) => (List.range b).all fun j => ids[j]? == some j
  | _ => true
theorem WRel.ren {w0 w : World} {I0 I : Imm} {m : Nat → Value} {l : List AO} {ids : List Nat} (h : WRel w0 I0 w I m l) (hnd : ids.Nodup) (hfr : framesOk ids l = true) : WRel w0 I0 w I (fun k => m ((ids[k]?).getD 0)) (renL ids l) := by
  have hm : ∀ (k id : Nat), ids[k]? = some id → (fun k : Nat => m ((ids[k]?).getD 0)) k = m id := fun k id hk => by simp [hk]
  have hget : ∀ {k : Nat} {o : AO}, (renL ids l)[k]? = some o → ∃ id, ids[k]? = some id := fun {k o} hk => by
    cases hi : ids[k]? with
    | none => simp [renL, hi] at hk
    | some id => exact ⟨id, rfl⟩
  have hal : ∀ {k id : Nat}, ids[k]? = some id → alive (renL ids l) k = alive l id := fun hk => by unfold alive; rw [ren_isVar hk, ren_isRow hk]
  refine ⟨h.below, h.sat, h.ext, fun k o ho => ?_, fun i j b hij hi hj => ?_⟩
  · obtain ⟨id, hk⟩ := hget ho
    have hg := renL_get (l := l) hk
    rw [ho] at hg
    cases hl : l[id]? with
    | none => rw [hl] at hg; simp [AO.ren] at hg; subst hg; trivial
    | some o' =>
      rw [hl] at hg; simp only [Option.getD_some, Option.some.injEq] at hg
      have ho' := h.obj id o' hl
      show ObjOk _ _ _ _ _ (m ((ids[k]?).getD 0)) o
      rw [hk, hg]; simp only [Option.getD_some]
      have pre : ∀ b : Nat, (match o' with | .frame b _ _ | .loop b _ _ _ _ _ _ _ => some b | _ => none) = some b → b ≤ l.length → b ≤ ids.length ∧ Le I m (l.take b) I (fun k => m ((ids[k]?).getD 0)) ((renL ids l).take b) := fun b hb hbl' => by
        have hpre : ∀ j, j < b → ids[j]? = some j := fun j hj => by
          have := List.all_eq_true.1 hfr id (List.mem_of_getElem? hk)
          rw [hl] at this
          have := (by
            cases o' <;> simp at hb <;> subst hb <;> exact List.all_eq_true.1 this j (List.mem_range.2 hj) : (ids[j]? == some j) = true)
          simpa using this
        have hbl : b ≤ ids.length := by
          rcases Nat.eq_zero_or_pos b with h0 | h0
          · omega
          · have := (List.getElem?_eq_some_iff.1 (hpre (b - 1) (by omega))).1; omega
        refine ⟨hbl, .refl I, by simp [renL]; omega, fun q hq hv => ?_, fun q hq hr => ?_, fun q e size els hq hh => ?_⟩
        · rw [List.length_take] at hq
          rw [isVar_take (by omega)] at hv ⊢
          exact ⟨(ren_isVar (hpre q (by omega))).trans hv, hm q q (hpre q (by omega))⟩
        · rw [List.length_take] at hq
          rw [isRow_take (by omega)] at hr ⊢
          exact ⟨(ren_isRow (hpre q (by omega))).symm.trans hr, hm q q (hpre q (by omega))⟩
        · rw [List.length_take] at hq
          rw [List.getElem?_take, if_pos (by omega)] at hh ⊢
          exact ⟨els, ren_row (hpre q (by omega)) hh⟩
      cases o' with
      | dead => trivial
      | var ty cs =>
        obtain ⟨b, vs, q1, q2, q3, q4, q5, q6⟩ := ho'
        refine ⟨b, vs, q1, q2, q3, by simp [q4], fun i x t hx ht => ?_, q6⟩
        rw [List.getElem?_map] at ht
        cases hc : cs[i]? with
        | none => rw [hc] at ht; simp at ht
        | some t0 =>
          rw [hc] at ht; simp at ht; subst ht
          exact ⟨(q5 i x t0 hx hc).1.ren hm, (q5 i x t0 hx hc).2⟩
      | row e size els => exact ho'
      | frow e size els => exact ho'
      | map ks vs => exact ho'
      | fmap ks vs => exact ho'
      | iter ks vs done => exact ho'
      | frame b vals t =>
        obtain ⟨p1, p2⟩ := pre b rfl ho'.2.1
        exact ⟨ho'.1, by simpa [renL] using p1, fun j => (ho'.2.2 j).mono p2⟩
      | loop b n ps asg body t st pend =>
        obtain ⟨b', r, q0, q1, q2, q3, q4, q5, q6⟩ := ho'
        obtain ⟨p1, p2⟩ := pre b rfl q4
        exact ⟨b', r, q0, q1, q2, q3, by simpa [renL] using p1, fun j => (q5 j).mono p2, q6⟩
  · obtain ⟨o1, q1, _⟩ := alive_iff.1 hi
    obtain ⟨o2, q2, _⟩ := alive_iff.1 hj
    obtain ⟨a, ha⟩ := hget q1
    obtain ⟨c, hc⟩ := hget q2
    rw [hal ha] at hi; rw [hal hc] at hj
    have hne : a ≠ c := fun e => by
      subst e
      have h1 := List.getElem?_eq_some_iff.1 ha
      have h2 := List.getElem?_eq_some_iff.1 hc
      obtain ⟨h1, h1'⟩ := h1; obtain ⟨h2, h2'⟩ := h2
      exact hij (nodup_inj hnd ha hc)
    simp only [ha, hc, Option.getD_some]
    exact h.sep a c b hne hi hj
def forgetsR (ids : List Nat) (s : Tm) : Tm → Prop
  | [] => True
  | (i, t) :: r => (get s i).ren ids = t ∧ forgetsR ids s r
theorem forgetsR_get {ids : List Nat} {s : Tm} : ∀ {r : Tm}, forgetsR ids s r → ∀ k, get r k = .undef ∨ get r k = (get s k).ren ids
  | [], _, k => .inl rfl
  | (i, t) :: r, h, k => by
    simp only [get]
    by_cases hi : i = k
    · subst hi; rw [if_pos rfl]; exact .inr h.1.symm
    · rw [if_neg hi]; exact forgetsR_get h.2 k
theorem Sub.ren (ids : List Nat) {t' : Tm} {l' : List AO} (hnd : ids.Nodup) (hfr : framesOk ids s.l = true) (hl : renL ids s.l = l') (hf : forgetsR ids s.t t') : Sub s ⟨t', l'⟩ := by
  subst hl
  intro w0 I0 n a w hr
  obtain ⟨h1, I, m, h3, h2, h4⟩ := hr
  refine ⟨h1, I, _, h3.ren hnd hfr, h2, fun j => ?_⟩
  rcases forgetsR_get hf j with h | h
  · rw [h]; exact .undef _
  · rw [h]; exact (h4 j).ren fun k id hk => by simp [hk]
theorem Sub.trans {s s' s'' : St} (h : Sub s s') (k : Sub s' s'') : Sub s s'' := fun _ _ _ _ _ hr => k _ _ _ _ _ (h _ _ _ _ _ hr)
theorem WRel.row0 {w0 w : World} {I0 I : Imm} {m : Nat → Value} {l : List AO} (h3 : WRel w0 I0 w I m l) (e size : Nat) : ∃ m', WRel w0 I0 w I m' (l ++ [.row e size []]) ∧ Le I m l I m' (l ++ [.row e size []]) ∧ m' l.length = .slice none 0 0 := by
  let m' : Nat → Value := fun k => if k = l.length then .slice none 0 0 else m k
  have hlt : ∀ k, k < l.length → m' k = m k := fun k hk => by simp only [m']; rw [if_neg (by omega)]
  have hV : ∀ id, id < l.length → isVar (l ++ [.row e size []]) id = isVar l id := fun id hid => by unfold isVar; rw [List.getElem?_append_left hid]
  have hR : ∀ id, id < l.length → isRow (l ++ [.row e size []]) id = isRow l id := fun id hid => by unfold isRow; rw [List.getElem?_append_left hid]
  have hle : Le I m l I m' (l ++ [.row e size []]) := by
    refine ⟨.refl I, by simp, fun id hid hv => ⟨(hV id hid).trans hv, hlt id hid⟩, fun id hid hv => ⟨(hR id hid).symm.trans hv, hlt id hid⟩, fun id e' s' els hid hl => ⟨els, ?_⟩⟩
    rwa [List.getElem?_append_left hid] at hl
  have hnew : m' l.length = .slice none 0 0 := by simp [m']
  refine ⟨m', ⟨h3.below, h3.sat, h3.ext, fun id o ho => ?_, fun i k b hik hi hk => ?_⟩, hle, hnew⟩
  · rcases Nat.lt_or_ge id l.length with hid | hid
    · rw [List.getElem?_append_left hid] at ho
      have := h3.obj id o ho
      rw [hlt id hid]
      cases o with
      | dead => trivial
      | var ty cs =>
        obtain ⟨b, vs, q1, q2, q3, q4, q5, q6⟩ := this
        exact ⟨b, vs, q1, q2, q3, q4, fun i x t hx ht => ⟨(q5 i x t hx ht).1.mono hle, (q5 i x t hx ht).2⟩, q6⟩
      | row e size els => exact this
      | frow e size els => exact this
      | map ks vs => exact this
      | fmap ks vs => exact this
      | iter ks vs done => exact this
      | frame b vals t => exact ⟨this.1, Nat.le_trans this.2.1 hle.len, fun j => (this.2.2 j).mono (hle.take b)⟩
      | loop b n ps asg body t st pend =>
        obtain ⟨b', r, q0, q1, q2, q3, q4, q5, q6⟩ := this
        exact ⟨b', r, q0, q1, q2, q3, Nat.le_trans q4 hle.len, fun j => (q5 j).mono (hle.take b), q6⟩
    · rw [List.getElem?_append_right hid] at ho
      have h0 : id - l.length = 0 := by
        cases hq : id - l.length with
        | zero => rfl
        | succ q => rw [hq] at ho; simp at ho
      rw [h0] at ho; simp at ho; subst ho
      have : id = l.length := by omega
      subst this
      rw [hnew]
      exact ⟨[], ⟨by simp, .inl ⟨rfl, rfl⟩⟩, by simp, by simp, by simp [own]⟩
  · intro hb
    have al : ∀ q, alive (l ++ [.row e size []]) q = true → (q < l.length ∧ alive l q = true) ∨ q = l.length := fun q hq => by
      rcases Nat.lt_or_ge q l.length with h | h
      · refine .inl ⟨h, ?_⟩; unfold alive at hq ⊢; rwa [hV q h, hR q h] at hq
      · obtain ⟨o, ho, _⟩ := alive_iff.1 hq
        have := (List.getElem?_eq_some_iff.1 ho).1
        simp at this; right; omega
    rcases al i hi with ⟨i1, i2⟩ | rfl
    · rcases al k hk with ⟨k1, k2⟩ | rfl
      · rw [hlt i i1] at hb; rw [hlt k k1]; exact h3.sep i k b hik i2 k2 hb
      · rw [hnew]; simp [own]
    · rw [hnew] at hb; simp [own] at hb
theorem Sub.adopt (j e size : Nat) {z : Nat} (hj : get s.t j = .nils z) : Sub s ⟨(j, .row s.l.length) :: s.t, s.l ++ [.row e size []]⟩ := by
  intro w0 I0 n a w hr
  obtain ⟨h1, I, m, h3, h2, h4⟩ := hr
  let m' : Nat → Value := fun k => if k = s.l.length then .slice none 0 0 else m k
  have hlt : ∀ k, k < s.l.length → m' k = m k := fun k hk => by simp only [m']; rw [if_neg (by omega)]
  have hV : ∀ id, id < s.l.length → isVar (s.l ++ [.row e size []]) id = isVar s.l id := fun id hid => by unfold isVar; rw [List.getElem?_append_left hid]
  have hR : ∀ id, id < s.l.length → isRow (s.l ++ [.row e size []]) id = isRow s.l id := fun id hid => by unfold isRow; rw [List.getElem?_append_left hid]
  have hle : Le I m s.l I m' (s.l ++ [.row e size []]) := by
    refine ⟨.refl I, by simp, fun id hid hv => ⟨(hV id hid).trans hv, hlt id hid⟩, fun id hid hv => ⟨(hR id hid).symm.trans hv, hlt id hid⟩, fun id e' s' els hid hl => ⟨els, ?_⟩⟩
    rwa [List.getElem?_append_left hid] at hl
  have hnew : m' s.l.length = .slice none 0 0 := by simp [m']
  refine ⟨h1, I, m', ⟨h3.below, h3.sat, h3.ext, fun id o ho => ?_, fun i k b hik hi hk => ?_⟩, h2, fun k => ?_⟩
  · rcases Nat.lt_or_ge id s.l.length with hid | hid
    · rw [List.getElem?_append_left hid] at ho
      have := h3.obj id o ho
      rw [hlt id hid]
      cases o with
      | dead => trivial
      | var ty cs =>
        obtain ⟨b, vs, q1, q2, q3, q4, q5, q6⟩ := this
        exact ⟨b, vs, q1, q2, q3, q4, fun i x t hx ht => ⟨(q5 i x t hx ht).1.mono hle, (q5 i x t hx ht).2⟩, q6⟩
      | row e size els => exact this
      | frow e size els => exact this
      | map ks vs => exact this
      | fmap ks vs => exact this
      | iter ks vs done => exact this
      | frame b vals t => exact ⟨this.1, Nat.le_trans this.2.1 hle.len, fun j => (this.2.2 j).mono (hle.take b)⟩
      | loop b n ps asg body t st pend =>
        obtain ⟨b', r, q0, q1, q2, q3, q4, q5, q6⟩ := this
        exact ⟨b', r, q0, q1, q2, q3, Nat.le_trans q4 hle.len, fun j => (q5 j).mono (hle.take b), q6⟩
    · rw [List.getElem?_append_right hid] at ho
      have h0 : id - s.l.length = 0 := by
        cases hq : id - s.l.length with
        | zero => rfl
        | succ q => rw [hq] at ho; simp at ho
      rw [h0] at ho; simp at ho; subst ho
      have : id = s.l.length := by omega
      subst this
      rw [hnew]
      exact ⟨[], ⟨by simp, .inl ⟨rfl, rfl⟩⟩, by simp, by simp, by simp [own]⟩
  · intro hb
    have al : ∀ q, alive (s.l ++ [.row e size []]) q = true → (q < s.l.length ∧ alive s.l q = true) ∨ q = s.l.length := fun q hq => by
      rcases Nat.lt_or_ge q s.l.length with h | h
      · refine .inl ⟨h, ?_⟩; unfold alive at hq ⊢; rwa [hV q h, hR q h] at hq
      · obtain ⟨o, ho, _⟩ := alive_iff.1 hq
        have := (List.getElem?_eq_some_iff.1 ho).1
        simp at this; right; omega
    rcases al i hi with ⟨i1, i2⟩ | rfl
    · rcases al k hk with ⟨k1, k2⟩ | rfl
      · rw [hlt i i1] at hb; rw [hlt k k1]; exact h3.sep i k b hik i2 k2 hb
      · rw [hnew]; simp [own]
    · rw [hnew] at hb; simp [own] at hb
  · simp only [get]
    by_cases hk : j = k
    · subst hk
      rw [if_pos rfl]
      have := h4 j
      rw [hj] at this
      generalize a.tmps.getD j undef = v at this
      cases this
      exact .row none 0 0 _ (by simp) fun _ => hnew
    · rw [if_neg hk]; exact (h4 k).mono hle
theorem Sub.adoptV (id k e size : Nat) {ty : TypeId} {cs : List T} {z : Nat} (ho : s.l[id]? = some (.var ty cs)) (hk : cs[k]? = some (.nils z)) : Sub s ⟨s.t, (s.l ++ [AO.row e size []]).set id (.var ty (cs.set k (.row s.l.length)))⟩ := by
  intro w0 I0 n a w hr
  obtain ⟨h1, I, m, h3, h2, h4⟩ := hr
  obtain ⟨m', r1, hle, hnew⟩ := h3.row0 e size
  have hid := (List.getElem?_eq_some_iff.1 ho).1
  have ho' : (s.l ++ [AO.row e size []])[id]? = some (.var ty cs) := by rw [List.getElem?_append_left hid]; exact ho
  have hle2 : Le I m' (s.l ++ [AO.row e size []]) I m' ((s.l ++ [AO.row e size []]).set id (.var ty (cs.set k (.row s.l.length)))) := Le.setKind ho' rfl rfl (fun e size els h => by rcases h with h | h <;> cases h)
  obtain ⟨b, vs, q1, q2, q3, q4, q5, q6⟩ := r1.obj id _ ho'
  refine ⟨h1, I, m', r1.turnB ho' (by simp) (b := b) (by rw [q1]; rfl) q6 rfl rfl hle2 rfl rfl rfl (Nat.le_refl _) (Nat.le_refl _) (fun _ _ => rfl) ⟨b, vs, q1, q2, q3, by simpa using q4, fun i x t hx ht => ?_, q6⟩, h2, fun j => ((h4 j).mono hle).mono hle2⟩
  rw [List.getElem?_set] at ht
  split at ht
  · rename_i hki
    subst hki
    split at ht
    · injection ht with ht; subst ht
      have := q5 k x _ hx hk
      refine ⟨?_, this.2⟩
      have h0 := this.1
      cases h0
      exact .row none 0 0 _ (by simp) fun _ => hnew
    · cases ht
  · exact ⟨(q5 i x t hx ht).1.mono hle2, (q5 i x t hx ht).2⟩
end
end Go.Eva
namespace Go.Eva
open Go Go.RowKit
class Enc (α : Type) where
  enc : α → D
  dec : D → α
  size : Nat
  dec_enc : ∀ a, dec (enc a) = a
  len : ∀ a, (enc a).cells.length = size
  ones : ∀ a, ∀ x ∈ (enc a).cells, x.one = true
open Enc
instance : Enc Int := ⟨fun n => .int .i64 n, fun d => match d with | .int _ n => n | _ => 0, 1, fun _ => rfl, fun _ => rfl, by simp [D.cells, D.one]⟩
instance : Enc Bool := ⟨fun n => .bool n, fun d => match d with | .bool n => n | _ => false, 1, fun _ => rfl, fun _ => rfl, by simp [D.cells, D.one]⟩
instance : Enc ByteArray := ⟨fun n => .str n, fun d => match d with | .str n => n | _ => ⟨#[]⟩, 1, fun _ => rfl, fun _ => rfl, by simp [D.cells, D.one]⟩
theorem map_dec_enc {α : Type} [Enc α] (xs : List α) : (xs.map (enc : α → D)).map dec = xs := by
  induction xs with
  | nil => rfl
  | cons x xs ih => simp only [List.map_cons, ih, dec_enc]
theorem map_dec_comp {α : Type} [Enc α] (xs : List α) : xs.map ((dec : D → α) ∘ (enc : α → D)) = xs := by rw [← List.map_map, map_dec_enc]
instance {α : Type} [Enc α] : Enc (List α) := ⟨fun xs => .slice (size α) (xs.map enc), fun d => match d with | .slice _ els => els.map dec | _ => [], 1, map_dec_enc, fun _ => rfl, by simp [D.cells, D.one]⟩
structure Fn where
  f : FuncId
instance : Enc Fn := ⟨fun n => .fn n.f, fun d => match d with | .fn f => ⟨f⟩ | _ => ⟨0⟩, 1, fun _ => rfl, fun _ => rfl, by simp [D.cells, D.one]⟩
theorem enc_int (n : Int) : enc n = .int .i64 n := rfl
theorem enc_bool (b : Bool) : enc b = .bool b := rfl
theorem enc_str (b : ByteArray) : enc b = .str b := rfl
theorem enc_fn (b : Fn) : enc b = .fn b.f := rfl
theorem enc_list {α : Type} [Enc α] (xs : List α) : enc xs = .slice (size α) (xs.map enc) := rfl
theorem dec_int (k : IntKind) (n : Int) : dec (.int k n) = n := rfl
theorem dec_bool (b : Bool) : dec (.bool b) = b := rfl
theorem dec_str (b : ByteArray) : dec (.str b) = b := rfl
theorem dec_fn (f : FuncId) : dec (.fn f) = Fn.mk f := rfl
theorem dec_list {α : Type} [Enc α] (s : Nat) (els : List D) : (dec (.slice s els) : List α) = els.map dec := rfl
theorem size_int : size Int = 1 := rfl
theorem size_str : size ByteArray = 1 := rfl
theorem take_enc {α : Type} [Enc α] (xs : List α) (k : Nat) : (xs.map (enc : α → D)).take k = (xs.take k).map enc := by simp
theorem drop_enc {α : Type} [Enc α] (xs : List α) (k : Nat) : (xs.map (enc : α → D)).drop k = (xs.drop k).map enc := by simp
theorem elAt_enc {α : Type} [Enc α] {xs : List α} {k : Nat} {x : α} (h : xs[k]? = some x) : elAt (xs.map enc) k = enc x := by simp [elAt, h]
def spec0 (r : D) : Spec := fun ds => match ds with | [] => some (r, True) | _ => none
def spec1 {α : Type} [Enc α] (pre : α → Prop) (f : α → D) : Spec := fun ds => match ds with | [a] => some (f (dec a), enc (dec a : α) = a ∧ pre (dec a)) | _ => none
def spec2 {α β : Type} [Enc α] [Enc β] (pre : α → β → Prop) (f : α → β → D) : Spec := fun ds => match ds with | [a, b] => some (f (dec a) (dec b), enc (dec a : α) = a ∧ enc (dec b : β) = b ∧ pre (dec a) (dec b)) | _ => none
def spec3 {α β γ : Type} [Enc α] [Enc β] [Enc γ] (pre : α → β → γ → Prop) (f : α → β → γ → D) : Spec := fun ds => match ds with | [a, b, c] => some (f (dec a) (dec b) (dec c), enc (dec a : α) = a ∧ enc (dec b : β) = b ∧ enc (dec c : γ) = c ∧ pre (dec a) (dec b) (dec c)) | _ => none
theorem range1 : List.range 1 = [0] := rfl
theorem range2 : List.range 2 = [0, 1] := rfl
theorem range3 : List.range 3 = [0, 1, 2] := rfl
theorem range4 : List.range 4 = [0, 1, 2, 3] := rfl
variable [Drw] [Rnd]
section
variable {P : Program} {g : FuncId}
theorem SpecOk.of0 {r : D} (he : Enters P g) (h : PureCon P g [] r) : SpecOk P g (spec0 r) := ⟨he, fun ds r ob hs hob => by
  unfold spec0 at hs; split at hs
  · cases hs; exact h
  · cases hs⟩
theorem SpecOk.of1 {α : Type} [Enc α] {pre : α → Prop} {f : α → D} (he : Enters P g) (h : ∀ a, pre a → PureCon P g [enc a] (f a)) : SpecOk P g (spec1 pre f) := ⟨he, fun ds r ob hs hob => by
  unfold spec1 at hs; split at hs
  · cases hs
    have := h _ hob.2; rw [hob.1] at this; exact this
  · cases hs⟩
theorem SpecOk.of2 {α β : Type} [Enc α] [Enc β] {pre : α → β → Prop} {f : α → β → D} (he : Enters P g) (h : ∀ a b, pre a b → PureCon P g [enc a, enc b] (f a b)) : SpecOk P g (spec2 pre f) := ⟨he, fun ds r ob hs hob => by
  unfold spec2 at hs; split at hs
  · cases hs
    have := h _ _ hob.2.2; rw [hob.1, hob.2.1] at this; exact this
  · cases hs⟩
theorem SpecOk.of3 {α β γ : Type} [Enc α] [Enc β] [Enc γ] {pre : α → β → γ → Prop} {f : α → β → γ → D} (he : Enters P g) (h : ∀ a b c, pre a b c → PureCon P g [enc a, enc b, enc c] (f a b c)) : SpecOk P g (spec3 pre f) := ⟨he, fun ds r ob hs hob => by
  unfold spec3 at hs; split at hs
  · cases hs
    have := h _ _ _ hob.2.2.2; rw [hob.1, hob.2.1, hob.2.2.1] at this; exact this
  · cases hs⟩
end
theorem thenQ_normal {K : St → Prop} {Q : Exit → St → Prop} {s : St} : thenQ K Q .normal s = K s := rfl
theorem thenQ_ret {K : St → Prop} {Q : Exit → St → Prop} {s : St} : thenQ K Q .ret s = Q .ret s := rfl
theorem thenQ_exit {K : St → Prop} {Q : Exit → St → Prop} {s : St} {i : Nat} : thenQ K Q (.exit i) s = Q (.exit i) s := rfl
section
variable {P : Program} {w0 : World} {I0 : Imm} {n : Nat} {Q : Exit → St → Prop} {s : St} {x y z : Code}
def restr (live : List Nat) (t : Tm) : Tm := live.map fun k => (k, get t k)
theorem restr_get (t : Tm) (k : Nat) : ∀ (live : List Nat), get (restr live t) k = .undef ∨ get (restr live t) k = get t k
  | [] => .inl rfl
  | j :: live => by
    simp only [restr, List.map_cons, get]
    by_cases h : j = k
    · rw [if_pos h, h]; exact .inr rfl
    · rw [if_neg h]; exact restr_get t k live
theorem Sub.restr (live : List Nat) : Sub s ⟨restr live s.t, s.l⟩ := by
  intro w0 I0 n a w hr
  obtain ⟨h1, I, m, h3, h2, h4⟩ := hr
  refine ⟨h1, I, m, h3, h2, fun j => ?_⟩
  rcases restr_get s.t j live with h | h
  · rw [h]; exact .undef _
  · rw [h]; exact h4 j
theorem AWp.seqKL {V : Env} (hV : VOk P V) (live : List Nat) {id : Nat} {ops : List Oper} (h : evalSeq V n ops none ops s (fun s' => AWp P w0 I0 n y ⟨Eva.restr live s'.t, s'.l⟩ Q)) : AWp P w0 I0 n ((Code.region id ops.toArray false).seq y) s Q :=
  AWp.seqK hV (evalSeq_mono (fun s' hs => AWp.sub (Sub.restr live) hs) _ _ h)
theorem AWp.seqDKL {V : Env} (hV : VOk P V) (hm : P.follows .mixedOrders = true) (n1 : Nat) (live : List Nat) {id : Nat} {ops : List Oper} (hd : drawOk ops n1 = true)
    (h : evalPure V n ops none s.l (ops.take n1) 0 s.t [] fun tm news => evalSeq V n ops none (ops.drop n1) ⟨tm, s.l ++ news.map (·.2)⟩ (fun s' => AWp P w0 I0 n y ⟨Eva.restr live s'.t, s'.l⟩ Q)) : AWp P w0 I0 n ((Code.region id ops.toArray true).seq y) s Q :=
  AWp.seq (AWp.mono (Q := fun e s' => e = .normal ∧ AWp P w0 I0 n y ⟨Eva.restr live s'.t, s'.l⟩ Q)
    (AWp.mono (AWp.drawK (Q := fun e s' => match e with | .normal => AWp P w0 I0 n y ⟨Eva.restr live s'.t, s'.l⟩ Q | _ => False) hV hm n1 hd h) fun e s' hq => by
      cases e <;> first | exact ⟨rfl, hq⟩ | exact hq.elim)
    fun e s' ⟨he, hq⟩ => by subst he; exact AWp.sub (Sub.restr live) hq)
theorem AWp.seqDFL {V : Env} (hV : VOk P V) (hm : P.follows .mixedOrders = true) (n1 : Nat) (F : List Nat) (live : List Nat) {id : Nat} {ops : List Oper} (hd : drawOk2 ops n1 F = true)
    (h : evalPure V n ops none s.l (ops.take n1) 0 s.t [] fun tm news => evalSeq V n ops none (ops.drop n1) ⟨tm, s.l ++ news.map (·.2)⟩ (fun s' => AWp P w0 I0 n y ⟨Eva.restr live s'.t, s'.l⟩ Q)) : AWp P w0 I0 n ((Code.region id ops.toArray true).seq y) s Q :=
  AWp.seq (AWp.mono (Q := fun e s' => e = .normal ∧ AWp P w0 I0 n y ⟨Eva.restr live s'.t, s'.l⟩ Q)
    (AWp.mono (AWp.drawF (Q := fun e s' => match e with | .normal => AWp P w0 I0 n y ⟨Eva.restr live s'.t, s'.l⟩ Q | _ => False) hV hm n1 F hd h) fun e s' hq => by
      cases e <;> first | exact ⟨rfl, hq⟩ | exact hq.elim)
    fun e s' ⟨he, hq⟩ => by subst he; exact AWp.sub (Sub.restr live) hq)
theorem AWp.congrS {s s' : St} (h : s = s') : AWp P w0 I0 n x s Q = AWp P w0 I0 n x s' Q := by rw [h]
theorem AWp.seqC {c : Operand} {b : Bool} (hc : boolOf (evT s.t c) = some b) (h1 : b = true → AWp P w0 I0 n x s (thenQ (fun s' => AWp P w0 I0 n z s' Q) Q)) (h2 : b = false → AWp P w0 I0 n y s (thenQ (fun s' => AWp P w0 I0 n z s' Q) Q)) : AWp P w0 I0 n ((Code.cond c x y).seq z) s Q :=
  AWp.seq (AWp.cond hc h1 h2)
theorem AWp.seqI {c : Operand} {b : Bool} (hc : boolOf (evT s.t c) = some b) (h1 : b = true → AWp P w0 I0 n x s (thenQ (fun s' => AWp P w0 I0 n z s' Q) Q)) (h2 : b = false → AWp P w0 I0 n z s Q) : AWp P w0 I0 n ((Code.cond c x .skip).seq z) s Q :=
  AWp.seq (AWp.cond hc h1 fun h => AWp.skip (h2 h))
end
end Go.Eva
