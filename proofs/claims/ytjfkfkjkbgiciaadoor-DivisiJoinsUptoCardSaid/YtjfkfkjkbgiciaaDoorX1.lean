/-
  The evaluator, the printed walks and the plain laws, part 1 of 8.
-/
import Derived.WalkKit
import Derived.WalkSpells
import Derived.WalkLawsBesides
import Derived.Maps.AppendAt
import Derived.Deep.AppendLies
import Derived.Deep.MidRow
import Derived.Deep.Quiet
import Derived.Great.BuildSlice
set_option linter.all false
set_option linter.unnecessarySimpa false
set_option linter.deprecated false
set_option linter.unusedVariables false
set_option linter.unusedSimpArgs false
set_option linter.unusedSectionVars false
namespace Go.Eva
open Go Go.RowKit
inductive D where
  | bool (b : Bool)
  | int (k : IntKind) (n : Int)
  | str (s : ByteArray)
  | agg (cs : List D)
  | slice (size : Nat) (els : List D)
  | fn (f : FuncId)
  | nilfn
  | map (ks vs : List D)
  | nilp
  | iface (t : TypeId) (d : D)
  | nilif
  | tup (ds : List D)
  | clo (f : FuncId) (caps : List D)
  | box (d : D)
  deriving Inhabited
def D.cells : D → List D
  | .agg cs => cs
  | d => [d]
def D.one : D → Bool
  | .agg _ => false
  | .tup _ => false
  | _ => true
def flat (els : List D) : List D := els.flatMap D.cells
abbrev ME := Array MapEntry × Nat
structure Imm where
  cell : Nat → Nat → Option Value
  mp : Nat → Option ME
  /-- Blocks for deferred calls of rounds, in which nothing lies. -/
  df : Nat → Prop
structure Imm.le (I J : Imm) : Prop where
  cell : ∀ b o v, I.cell b o = some v → J.cell b o = some v
  mp : ∀ b es, I.mp b = some es → J.mp b = some es
  df : ∀ b, I.df b → J.df b
theorem Imm.le.refl (I : Imm) : I.le I := ⟨fun _ _ _ h => h, fun _ _ h => h, fun _ h => h⟩
theorem Imm.le.trans {I J K : Imm} (h : I.le J) (k : J.le K) : I.le K := ⟨fun _ _ _ x => k.cell _ _ _ (h.cell _ _ _ x), fun _ _ x => k.mp _ _ (h.mp _ _ x), fun _ x => k.df _ (h.df _ x)⟩
inductive Rd (I : Imm) : Value → D → Prop
  | bool (b) : Rd I (.bool b) (.bool b)
  | int (k n) : Rd I (.int k n) (.int k n)
  | str (s) : Rd I (.string s) (.str s)
  | agg (cs : Array Value) (ds : List D) : cs.size = ds.length → (∀ d ∈ ds, d.one = true) → (∀ (i : Nat) v d, cs[i]? = some v → ds[i]? = some d → Rd I v d) → Rd I (.agg cs) (.agg ds)
  | slice0 (A c size) : c ≤ maxLen → Rd I (.slice A 0 c) (.slice size [])
  | slice (b off n c size : Nat) (els : List D) (val : Nat → Value) : els.length = n → n ≤ c → c ≤ maxLen → (∀ d ∈ els, d.cells.length = size ∧ ∀ x ∈ d.cells, x.one = true) →
      (∀ k, k < n * size → I.cell b (off + k) = some (val k)) → (∀ (k : Nat) x, (flat els)[k]? = some x → Rd I (val k) x) → Rd I (.slice (some ⟨b, off, none⟩) n c) (.slice size els)
  | fn (f) : Rd I (.func (.func f) #[] #[]) (.fn f)
  | nilfn : Rd I .nilFunc .nilfn
  | map0 : Rd I (.map none) (.map [] [])
  | map (b : Nat) (es : ME) (ks vs : List D) : I.mp b = some es → es.1.size = ks.length → es.1.size = vs.length → (∀ (i : Nat) (e : MapEntry) (d : D), es.1[i]? = some e → ks[i]? = some d → Rd I e.key d) → (∀ (i : Nat) (e : MapEntry) (d : D), es.1[i]? = some e → vs[i]? = some d → Rd I e.val d) → Rd I (.map (some b)) (.map ks vs)
  | nilp : Rd I (.pointer none) .nilp
  | iface (t v d) : Rd I v d → Rd I (.iface t v) (.iface t d)
  | nilif : Rd I .nilIface .nilif
  | tup (vs : Array Value) (ds : List D) : vs.size = ds.length → (∀ (i : Nat) v d, vs[i]? = some v → ds[i]? = some d → Rd I v d) → Rd I (.tuple vs) (.tup ds)
  | clo (f) (vs : Array Value) (ds : List D) : vs.size = ds.length → (∀ (i : Nat) v d, vs[i]? = some v → ds[i]? = some d → Rd I v d) → Rd I (.func (.func f) #[] vs) (.clo f ds)
  | box (b : Nat) (d : D) (val : Nat → Value) : (∀ x ∈ d.cells, x.one = true) → (∀ k, k < d.cells.length → I.cell b k = some (val k)) → (∀ (k : Nat) x, d.cells[k]? = some x → Rd I (val k) x) → Rd I (.pointer (some ⟨b, 0, none⟩)) (.box d)
theorem Rd.mono' {I J : Imm} (hc : ∀ b o v, I.cell b o = some v → J.cell b o = some v) (hm : ∀ b es, I.mp b = some es → J.mp b = some es) {v : Value} {d : D} (r : Rd I v d) : Rd J v d := by
  induction r with
  | bool b => exact .bool b
  | int k n => exact .int k n
  | str s => exact .str s
  | agg cs ds h1 h2 _ ih => exact .agg cs ds h1 h2 ih
  | slice0 A c size h => exact .slice0 A c size h
  | slice b off n c size els val h1 h2 h3 h4 h5 _ ih => exact .slice b off n c size els val h1 h2 h3 h4 (fun k hk => hc _ _ _ (h5 k hk)) ih
  | fn f => exact .fn f
  | nilfn => exact .nilfn
  | map0 => exact .map0
  | map b es ks vs h1 h2 h3 _ _ ih1 ih2 => exact .map b es ks vs (hm _ _ h1) h2 h3 ih1 ih2
  | nilp => exact .nilp
  | iface t v d _ ih => exact .iface t v d ih
  | nilif => exact .nilif
  | tup vs ds h1 _ ih => exact .tup vs ds h1 ih
  | clo f vs ds h1 _ ih => exact .clo f vs ds h1 ih
  | box b d val h1 h2 _ ih => exact .box b d val h1 (fun k hk => hc _ _ _ (h2 k hk)) ih
theorem Rd.mono {I J : Imm} (h : I.le J) {v : Value} {d : D} (r : Rd I v d) : Rd J v d := r.mono' h.cell h.mp
theorem Rd.one {I : Imm} {v : Value} {d : D} (h : Rd I v d) (hd : d.one = true) : v.oneCell' = true := by
  cases h <;> simp_all [D.one, Value.oneCell']
theorem Rd.cells {I : Imm} {v : Value} {d : D} (h : Rd I v d) (ht : ∀ ds, d ≠ .tup ds) : v.cells.size = d.cells.length ∧ (∀ x ∈ d.cells, x.one = true) ∧ ∀ (i : Nat) x y, v.cells[i]? = some x → d.cells[i]? = some y → Rd I x y := by
  cases h with
  | agg cs ds h1 h2 h3 => exact ⟨h1, h2, h3⟩
  | tup vs ds h1 h2 => exact absurd rfl (ht ds)
  | _ =>
    refine ⟨by simp [Value.cells, D.cells], by simp [D.cells, D.one], fun i x y hx hy => ?_⟩
    simp only [Value.cells, D.cells] at hx hy
    rcases i with _ | i
    · simp at hx hy
      subst hx; subst hy
      constructor <;> assumption
    · simp at hx
inductive T where
  | undef
  | d (x : D)
  | nils (size : Nat)
  | ptr (id off : Nat)
  | eptr (size : Nat) (els : List D) (k off : Nat)
  | row (id : Nat)
  | rptr (id k off : Nat)
  | map (id : Nat)
  | tup (ts : List T)
  | cond (pc : List (Nat × Bool × Bool)) (t : T)
  | clo (f : FuncId) (ts : List T)
  /-- What the loop over a function, of record id, hands to the function. -/
  | yld (id : Nat)
  /-- A struct of which some cells hold what is the call's own. -/
  | agg (ts : List T)
  /-- A part of an own row. -/
  | sub (id lo hi : Nat)
  deriving Inhabited
abbrev Tm := List (Nat × T)
def get : Tm → Nat → T
  | [], _ => .undef
  | (i, t) :: r, k => if i = k then t else get r k
def putT (s : Tm) (dst : Option Nat) (t : T) : Tm := match dst with | some d => (d, t) :: s | none => s
inductive AO where
  | dead
  | var (ty : TypeId) (cs : List T)
  | row (e size : Nat) (els : List D)
  | frow (e size : Nat) (els : List D)
  | map (ks vs : List D)
  | fmap (ks vs : List D)
  | iter (ks vs : List D) (done : List Nat)
  | frame (base : Nat) (vals : Nat → Value) (t : Tm)
  /-- The record of a loop over a function: what the slots were when it began, over the objects below 'base'. -/
  | loop (base n : Nat) (ps : Array Tmp) (asg body : Code) (t : Tm) (st : LoopState) (pend : Option Code)
  deriving Inhabited
def AO.isVar : AO → Bool | .var .. => true | .iter .. => true | .frame .. => true | .loop .. => true | _ => false
def AO.isRow : AO → Bool | .row .. => true | .frow .. => true | .map .. => true | .fmap .. => true | _ => false
def isVar (l : List AO) (id : Nat) : Bool := ((l[id]?).map AO.isVar).getD false
def isRow (l : List AO) (id : Nat) : Bool := ((l[id]?).map AO.isRow).getD false
def holds : List (Nat × Bool × Bool) → Prop
  | [] => True
  | (_, c, b) :: r => c = b ∧ holds r
inductive RdT (I : Imm) (m : Nat → Value) (l : List AO) : Value → T → Prop
  | undef (v) : RdT I m l v .undef
  | d (v x) : Rd I v x → RdT I m l v (.d x)
  | nils (size) : RdT I m l (.slice none 0 0) (.nils size)
  | ptr (id b off) : isVar l id = true → m id = .pointer (some ⟨b, 0, none⟩) → RdT I m l (.pointer (some ⟨b, off, none⟩)) (.ptr id off)
  | eptr (b o size els k off) (val : Nat → Value) : k < els.length → (∀ d ∈ els, d.cells.length = size ∧ ∀ x ∈ d.cells, x.one = true) →
      (∀ j, j < els.length * size → I.cell b (o + j) = some (val j)) → (∀ (j : Nat) x, (flat els)[j]? = some x → Rd I (val j) x) → RdT I m l (.pointer (some ⟨b, o + k * size + off, none⟩)) (.eptr size els k off)
  | row (A : Option Addr) (n c id : Nat) : id < l.length → (isRow l id = true → m id = .slice A n c) → RdT I m l (.slice A n c) (.row id)
  | rptr (a : Addr) (id k off) : id < l.length → (∀ e size els, (l[id]? = some (.row e size els) ∨ l[id]? = some (.frow e size els)) → ∃ b n c, m id = .slice (some ⟨b, 0, none⟩) n c ∧ a = ⟨b, k * size + off, none⟩) → RdT I m l (.pointer (some a)) (.rptr id k off)
  | map (r : Option Nat) (id : Nat) : id < l.length → (isRow l id = true → m id = .map r) → RdT I m l (.map r) (.map id)
  | tup (vs : Array Value) (ts : List T) : vs.size = ts.length → (∀ (i : Nat) v t, vs[i]? = some v → ts[i]? = some t → RdT I m l v t) → RdT I m l (.tuple vs) (.tup ts)
  | cond (v pc t) : (holds pc → RdT I m l v t) → (¬ holds pc → v = Go.undef) → RdT I m l v (.cond pc t)
  | clo (g) (vs : Array Value) (ts : List T) : vs.size = ts.length → (∀ (i : Nat) v t, vs[i]? = some v → ts[i]? = some t → RdT I m l v t) → RdT I m l (.func (.func g) #[] vs) (.clo g ts)
  | yld (id b) : isVar l id = true → m id = .func (.yield b) #[] #[] → RdT I m l (.func (.yield b) #[] #[]) (.yld id)
  | sub (A : Option Addr) (n c id lo hi : Nat) : id < l.length → (∀ e size els, (l[id]? = some (.row e size els) ∨ l[id]? = some (.frow e size els)) → ∃ A0 n0 c0, m id = .slice A0 n0 c0 ∧ lo ≤ hi ∧ hi ≤ n0 ∧ Value.slice A n c = sliced A0 lo hi c0 size) → RdT I m l (.slice A n c) (.sub id lo hi)
  | agg (vs : Array Value) (ts : List T) : vs.size = ts.length → (∀ (i : Nat) v, vs[i]? = some v → v.oneCell' = true) → (∀ (i : Nat) v t, vs[i]? = some v → ts[i]? = some t → RdT I m l v t) → RdT I m l (.agg vs) (.agg ts)
structure Le (I : Imm) (m : Nat → Value) (l : List AO) (J : Imm) (m' : Nat → Value) (l' : List AO) : Prop where
  imm : I.le J
  len : l.length ≤ l'.length
  var : ∀ id, id < l.length → isVar l id = true → isVar l' id = true ∧ m' id = m id
  row : ∀ id, id < l.length → isRow l' id = true → isRow l id = true ∧ m' id = m id
  rows : ∀ id e size els, id < l.length → (l'[id]? = some (.row e size els) ∨ l'[id]? = some (.frow e size els)) → ∃ els', (l[id]? = some (.row e size els') ∨ l[id]? = some (.frow e size els'))
theorem Le.refl (I : Imm) (m : Nat → Value) (l : List AO) : Le I m l I m l := ⟨.refl I, Nat.le_refl _, fun _ _ h => ⟨h, rfl⟩, fun _ _ h => ⟨h, rfl⟩, fun _ _ _ els _ h => ⟨els, h⟩⟩
theorem Le.trans {I J K : Imm} {m m' m'' : Nat → Value} {l l' l'' : List AO} (h : Le I m l J m' l') (k : Le J m' l' K m'' l'') : Le I m l K m'' l'' where
  imm := h.imm.trans k.imm
  len := Nat.le_trans h.len k.len
  var id hid hv := by
    obtain ⟨h1, h2⟩ := h.var id hid hv
    obtain ⟨k1, k2⟩ := k.var id (Nat.lt_of_lt_of_le hid h.len) h1
    exact ⟨k1, k2.trans h2⟩
  row id hid hv := by
    obtain ⟨k1, k2⟩ := k.row id (Nat.lt_of_lt_of_le hid h.len) hv
    obtain ⟨h1, h2⟩ := h.row id hid k1
    exact ⟨h1, k2.trans h2⟩
  rows id e size els hid hv := by
    obtain ⟨els', h'⟩ := k.rows id e size els (Nat.lt_of_lt_of_le hid h.len) hv
    exact h.rows id e size els' hid h'
theorem isVar_take {l : List AO} {base id : Nat} (h : id < base) : isVar (l.take base) id = isVar l id := by unfold isVar; rw [List.getElem?_take, if_pos h]
theorem isRow_take {l : List AO} {base id : Nat} (h : id < base) : isRow (l.take base) id = isRow l id := by unfold isRow; rw [List.getElem?_take, if_pos h]
theorem Le.take {I J : Imm} {m m' : Nat → Value} {l l' : List AO} (h : Le I m l J m' l') (base : Nat) : Le I m (l.take base) J m' (l'.take base) where
  imm := h.imm
  len := by have := h.len; rw [List.length_take, List.length_take]; omega
  var id hid hv := by
    rw [List.length_take] at hid
    rw [isVar_take (by omega)] at hv ⊢
    exact h.var id (by omega) hv
  row id hid hv := by
    rw [List.length_take] at hid
    rw [isRow_take (by omega)] at hv ⊢
    exact h.row id (by omega) hv
  rows id e size els hid hv := by
    rw [List.length_take] at hid
    rw [List.getElem?_take, if_pos (by omega)] at hv ⊢
    exact h.rows id e size els (by omega) hv
theorem Le.untake (I : Imm) (m : Nat → Value) (l : List AO) (base : Nat) : Le I m (l.take base) I m l where
  imm := .refl I
  len := by rw [List.length_take]; omega
  var id hid hv := by
    rw [List.length_take] at hid
    rw [isVar_take (by omega)] at hv
    exact ⟨hv, rfl⟩
  row id hid hv := by
    rw [List.length_take] at hid
    rw [isRow_take (by omega)]
    exact ⟨hv, rfl⟩
  rows id e size els hid hv := by
    rw [List.length_take] at hid
    refine ⟨els, ?_⟩
    rw [List.getElem?_take, if_pos (by omega)]; exact hv
theorem isVar_lt {l : List AO} {id : Nat} (h : isVar l id = true) : id < l.length := by
  unfold isVar at h
  rcases Nat.lt_or_ge id l.length with h' | h'
  · exact h'
  · rw [List.getElem?_eq_none h'] at h; simp at h
theorem RdT.mono {I J : Imm} {m m' : Nat → Value} {l l' : List AO} (h : Le I m l J m' l') {v : Value} {t : T} (r : RdT I m l v t) : RdT J m' l' v t := by
  induction r with
  | undef v => exact .undef v
  | d v x r => exact .d v x (r.mono h.imm)
  | nils s => exact .nils s
  | ptr id b off h1 h2 =>
    obtain ⟨k1, k2⟩ := h.var id (isVar_lt h1) h1
    exact .ptr id b off k1 (k2.trans h2)
  | eptr b o size els k off val h1 h2 h3 h4 => exact .eptr b o size els k off val h1 h2 (fun j hj => h.imm.cell _ _ _ (h3 j hj)) (fun j x hx => (h4 j x hx).mono h.imm)
  | row A n c id h1 h2 =>
    refine .row A n c id (Nat.lt_of_lt_of_le h1 h.len) fun hl => ?_
    obtain ⟨k1, k2⟩ := h.row id h1 hl
    exact k2.trans (h2 k1)
  | rptr a id k off h1 h2 =>
    refine .rptr a id k off (Nat.lt_of_lt_of_le h1 h.len) fun e size els hl => ?_
    obtain ⟨els', h'⟩ := h.rows id e size els h1 hl
    obtain ⟨b, n, c, q1, q2⟩ := h2 e size els' h'
    have : isRow l' id = true := by unfold isRow; rcases hl with hl | hl <;> simp [hl, AO.isRow]
    exact ⟨b, n, c, (h.row id h1 this).2.trans q1, q2⟩
  | sub A n c id lo hi h1 h2 =>
    refine .sub A n c id lo hi (Nat.lt_of_lt_of_le h1 h.len) fun e size els hl => ?_
    obtain ⟨els', h'⟩ := h.rows id e size els h1 hl
    obtain ⟨A0, n0, c0, q1, q2⟩ := h2 e size els' h'
    have : isRow l' id = true := by unfold isRow; rcases hl with hl | hl <;> simp [hl, AO.isRow]
    exact ⟨A0, n0, c0, (h.row id h1 this).2.trans q1, q2⟩
  | map r id h1 h2 =>
    refine .map r id (Nat.lt_of_lt_of_le h1 h.len) fun hl => ?_
    obtain ⟨k1, k2⟩ := h.row id h1 hl
    exact k2.trans (h2 k1)
  | tup vs ts h1 _ ih => exact .tup vs ts h1 ih
  | cond v pc t _ hn ih => exact .cond v pc t ih hn
  | clo g vs ts h1 _ ih => exact .clo g vs ts h1 ih
  | yld id b h1 h2 =>
    obtain ⟨k1, k2⟩ := h.var id (isVar_lt h1) h1
    exact .yld id b k1 (k2.trans h2)
  | agg vs ts h1 h2 _ ih => exact .agg vs ts h1 h2 ih
def own : Value → Option Nat
  | .pointer (some a) => some a.block
  | .slice (some a) _ _ => some a.block
  | .map (some b) => some b
  | .func (.yield b) _ _ => some b
  | _ => none
def Imm.noB (I : Imm) (b : Nat) : Prop := (∀ o, I.cell b o = none) ∧ I.mp b = none
def MapAt (o : Option Obj) (es : ME) : Prop := o = some (.map es.1 es.2) ∧ MapKept.Stamped es.1 es.2
theorem MapAt.to {o o' : Option Obj} {es : ME} (h : o' = o) (k : MapAt o es) : MapAt o' es := ⟨h.trans k.1, k.2⟩
def bornAt (es : ME) (i : Nat) : Nat := ((es.1[i]?).map (·.born)).getD 0
def ObjOk (B : Nat) (w : World) (I : Imm) (m : Nat → Value) (l : List AO) (v : Value) : AO → Prop
  | .dead => True
  | .var ty cs => ∃ b vs, v = .pointer (some ⟨b, 0, none⟩) ∧ B ≤ b ∧ w.heap[b]? = some (.cells vs ty (0, 0)) ∧ vs.size = cs.length ∧ (∀ (i : Nat) x t, vs[i]? = some x → cs[i]? = some t → RdT I m l x t ∧ x.oneCell' = true) ∧ I.noB b
  | .row e size els => ∃ xs, w.ownsRow B e size v els.length xs ∧ (∀ d ∈ els, d.cells.length = size ∧ ∀ x ∈ d.cells, x.one = true) ∧ (∀ (j : Nat) x y, xs[j]? = some x → (flat els)[j]? = some y → Rd I x y) ∧ (∀ b, own v = some b → I.noB b)
  | .frow e size els => ∃ xs, w.ownsRow B e size v els.length xs ∧ (∀ d ∈ els, d.cells.length = size ∧ ∀ x ∈ d.cells, x.one = true) ∧ (∀ (j : Nat) x y, xs[j]? = some x → (flat els)[j]? = some y → Rd I x y) ∧ (∀ b, own v = some b → I.mp b = none ∧ (∀ (j : Nat) x, xs[j]? = some x → I.cell b j = some x) ∧ ∀ j, xs.length ≤ j → I.cell b j = none)
  | .map ks vs => ∃ b es, v = .map (some b) ∧ B ≤ b ∧ MapAt w.heap[b]? es ∧ es.1.size = ks.length ∧ es.1.size = vs.length ∧ (∀ (i : Nat) (e : MapEntry) (d : D), es.1[i]? = some e → ks[i]? = some d → Rd I e.key d) ∧ (∀ (i : Nat) (e : MapEntry) (d : D), es.1[i]? = some e → vs[i]? = some d → Rd I e.val d) ∧ I.noB b
  | .fmap ks vs => ∃ b es, v = .map (some b) ∧ B ≤ b ∧ MapAt w.heap[b]? es ∧ es.1.size = ks.length ∧ es.1.size = vs.length ∧ (∀ (i : Nat) (e : MapEntry) (d : D), es.1[i]? = some e → ks[i]? = some d → Rd I e.key d) ∧ (∀ (i : Nat) (e : MapEntry) (d : D), es.1[i]? = some e → vs[i]? = some d → Rd I e.val d) ∧ (∀ o, I.cell b o = none) ∧ I.mp b = some es
  | .iter ks vs done => ∃ b mb es seen, v = .pointer (some ⟨b, 0, none⟩) ∧ B ≤ b ∧ w.heap[b]? = some (.mapIter mb es.2 seen es.2) ∧ ((∀ r, mb = some r → I.mp r = some es) ∧ (mb = none → es.1 = #[])) ∧ es.1.size = ks.length ∧ es.1.size = vs.length ∧ (∀ (i : Nat) (e : MapEntry) (d : D), es.1[i]? = some e → ks[i]? = some d → Rd I e.key d) ∧ (∀ (i : Nat) (e : MapEntry) (d : D), es.1[i]? = some e → vs[i]? = some d → Rd I e.val d) ∧ (seen.toList = done.map (bornAt es) ∧ ∀ i ∈ done, i < es.1.size) ∧ I.noB b
  | .frame base vals t => own v = none ∧ base ≤ l.length ∧ ∀ k, RdT I m (l.take base) (vals k) (get t k)
  | .loop base n ps asg body t st pend => ∃ b r, v = .func (.yield b) #[] #[] ∧ B ≤ b ∧ w.heap[b]? = some (.loop r) ∧ (r.state = st ∧ r.pending = pend ∧ r.params = ps ∧ r.assign = asg ∧ r.body = body ∧ r.tmps.size = n) ∧ base ≤ l.length ∧ (∀ k, RdT I m (l.take base) (r.tmps.getD k undef) (get t k)) ∧ I.noB b
class Drw where
  on : Prop
  dat : Nat → Option D := fun _ => none
variable [Drw]
structure SatI (w : World) (I : Imm) : Prop where
  cell : ∀ b o v, I.cell b o = some v → w.cell? ⟨b, o, none⟩ = some v
  mp : ∀ b es, I.mp b = some es → MapAt w.heap[b]? es
  df : ∀ b, I.df b → w.heap[b]? = some (.deferred (some []))
  glob : ∀ g d, Drw.dat g = some d → Rd I (.pointer (some ⟨g, 0, none⟩)) (.box d)
theorem SatI.ltd {w : World} {I : Imm} (h : SatI w I) {b : Nat} (hc : I.df b) : b < w.heap.size := (Array.getElem?_eq_some_iff.1 (h.df b hc)).1
theorem SatI.ndf {w : World} {I : Imm} (h : SatI w I) {b : Nat} {o : Obj} (ho : w.heap[b]? = some o) (hn : o ≠ .deferred (some [])) : ¬ I.df b := fun hd => by
  rw [h.df b hd] at ho; injection ho with ho; exact hn ho.symm
theorem SatI.lt {w : World} {I : Imm} (h : SatI w I) {b o : Nat} {v : Value} (hc : I.cell b o = some v) : b < w.heap.size := World.block_lt_of_cell? w ⟨b, o, none⟩ (h.cell b o v hc)
theorem SatI.ltm {w : World} {I : Imm} (h : SatI w I) {b : Nat} {es : ME} (hc : I.mp b = some es) : b < w.heap.size := by
  have hh := h.mp b es hc
  exact (Array.getElem?_eq_some_iff.1 hh.1).1
theorem SatI.noB {w : World} {I : Imm} (h : SatI w I) {b : Nat} (hb : w.heap.size ≤ b) : I.noB b := by
  refine ⟨fun o => ?_, ?_⟩
  · cases hc : I.cell b o with
    | none => rfl
    | some v => have := h.lt hc; omega
  · cases hc : I.mp b with
    | none => rfl
    | some v => have := h.ltm hc; omega
structure ExtI (B : Nat) (I J : Imm) : Prop where
  lc : ∀ b o v, I.cell b o = some v → J.cell b o = some v
  lm : ∀ b es, I.mp b = some es → J.mp b = some es
  ld : ∀ b, b < B → I.df b → J.df b
  cell : ∀ b, b < B → J.cell b = I.cell b
  mp : ∀ b, b < B → J.mp b = I.mp b
theorem ExtI.of {B : Nat} {I J : Imm} (h : I.le J) (hc : ∀ b, b < B → J.cell b = I.cell b) (hm : ∀ b, b < B → J.mp b = I.mp b) : ExtI B I J := ⟨h.cell, h.mp, fun b _ => h.df b, hc, hm⟩
theorem ExtI.le {B : Nat} {I J : Imm} (h : ExtI B I J) (hb : ∀ b, I.df b → b < B) : I.le J := ⟨h.lc, h.lm, fun b hd => h.ld b (hb b hd) hd⟩
theorem ExtI.refl (B : Nat) (I : Imm) : ExtI B I I := .of (.refl I) (fun _ _ => rfl) (fun _ _ => rfl)
theorem ExtI.trans {B B' : Nat} {I J K : Imm} (h : ExtI B I J) (k : ExtI B' J K) (hB : B ≤ B') : ExtI B I K :=
  ⟨fun _ _ _ x => k.lc _ _ _ (h.lc _ _ _ x), fun _ _ x => k.lm _ _ (h.lm _ _ x), fun b hb x => k.ld b (by omega) (h.ld b hb x), fun b hb => (k.cell b (by omega)).trans (h.cell b hb), fun b hb => (k.mp b (by omega)).trans (h.mp b hb)⟩
def alive (l : List AO) (id : Nat) : Bool := isVar l id || isRow l id
structure Bel (B : Nat) (w w' : World) : Prop where
  os : w'.os = w.os
  tape : w'.tape = w.tape
  output : w'.output = w.output
  size : w.heap.size ≤ w'.heap.size
  block : ∀ k, k < B → w'.heap[k]? = w.heap[k]?
  drawn : Drw.on → w.drawn ≤ w'.drawn
theorem Bel.refl (B : Nat) (w : World) : Bel B w w := ⟨rfl, rfl, rfl, Nat.le_refl _, fun _ _ => rfl, fun _ => Nat.le_refl _⟩
theorem Bel.below {B : Nat} {w w' : World} (h : Bel B w w') : Below B w w' := ⟨h.os, h.tape, h.output, h.size, h.block⟩
theorem Bel.of {B : Nat} {w w' : World} (h : Below B w w') (hd : Drw.on → w.drawn ≤ w'.drawn) : Bel B w w' := ⟨h.os, h.tape, h.output, h.size, h.block, hd⟩
theorem Bel.trans {B : Nat} {a b c : World} (h : Bel B a b) (k : Bel B b c) : Bel B a c := .of (h.below.trans k.below) fun o => Nat.le_trans (h.drawn o) (k.drawn o)
theorem Bel.mono {B B' : Nat} {w w' : World} (h : Bel B w w') (hB : B' ≤ B) : Bel B' w w' := .of (h.below.mono hB) h.drawn
theorem Bel.alloc {B : Nat} {w w' : World} (h : Bel B w w') (hB : B ≤ w'.heap.size) (o : Obj) : Bel B w (w'.alloc o) := .of (h.below.alloc hB o) h.drawn
theorem Bel.drew {B : Nat} {w w' : World} (h : Bel B w w') : Bel B w w'.drew := .of h.below.drew fun o => Nat.le_trans (h.drawn o) (Nat.le_succ _)
structure WRel (w0 : World) (I0 : Imm) (w : World) (I : Imm) (m : Nat → Value) (l : List AO) : Prop where
  below : Bel w0.heap.size w0 w
  sat : SatI w I
  ext : ExtI w0.heap.size I0 I
  obj : ∀ id o, l[id]? = some o → ObjOk w0.heap.size w I m l (m id) o
  sep : ∀ i j b, i ≠ j → alive l i = true → alive l j = true → own (m i) = some b → own (m j) ≠ some b
end Go.Eva
namespace Go.Eva
open Go Go.RowKit
theorem ask_drawn {α : Type} : ∀ (x : Ask α) (w : World), w.drawn ≤ (w.ask x).2.drawn
  | .done a, w => Nat.le_refl _
  | .ask what range k, w => by
    simp only [World.ask]
    split
    · exact ask_drawn _ w
    · exact Nat.le_trans (Nat.le_succ _) (ask_drawn (k _) { w with drawn := w.drawn + 1 })
theorem sys_drawn (w : World) (c : Sys) : w.drawn ≤ (w.sys c).2.drawn := by
  unfold World.sys
  have h := ask_drawn (Kernel.perform c w.os) w
  split
  · exact Nat.le_refl _
  · rename_i r os w' hne he
    rw [he] at h; exact h
theorem viewStore_drawn {p : Program} {w w' : World} {at_ : Addr} {u : TypeId} {k : Addr} {v : Value} {atomic : Bool} {l : List Addr} (h : w.viewStore p at_ u k v atomic = .ok (w', l)) : w'.drawn = w.drawn := by
  unfold World.viewStore at h
  simp only [bind, Except.bind, pure, Except.pure, throw, throwThe, MonadExceptOf.throw] at h
  repeat' split at h
  all_goals first | cases h; done | skip
  all_goals (injection h with h; injection h with h _; subst h; rfl)
theorem farStore_drawn {p : Program} {w w' : World} {a : Addr} {v : Value} {atomic : Bool} {l : List Addr} (h : w.farStore p a v atomic = .ok (w', l)) : w'.drawn = w.drawn := by
  unfold World.farStore at h
  split at h
  · split at h
    · rename_i r hr
      injection h with h; subst h; exact viewStore_drawn hr
    · cases h
  · cases h
theorem run_drawn {α : Type} (p : Program) : ∀ (s : Sem α) (w : World) (a : α) (w' : World), s.run p w = .ok a w' → w.drawn ≤ w'.drawn
  | .pure a, w, b, w', h => by simp only [Sem.run] at h; cases h; exact Nat.le_refl _
  | .load m a k, w, b, w', h => by
    simp only [Sem.run] at h
    split at h
    · exact run_drawn p _ w b w' h
    · split at h
      · exact run_drawn p _ w b w' h
      · cases h
  | .store m a v k, w, b, w', h => by
    have key : ∀ u : Value, (match w.cell? a with
        | some _ => if w.frozen? a then Result.halt (.unsupported (.unsafePointer "a write to bytes that a string shares")) w else k.run p (w.setCell a u)
        | none => match w.farStore p a u (m == .atomic) with
          | .ok (w, _) => k.run p w
          | .error h => .halt h w) = Result.ok b w' → w.drawn ≤ w'.drawn := by
      intro u h
      split at h
      · split at h
        · cases h
        · have := run_drawn p k _ b w' h; exact this
      · split at h
        · rename_i w2 l hf
          have := run_drawn p k _ b w' h
          rw [farStore_drawn hf] at this; exact this
        · cases h
    cases v <;> simp only [Sem.run] at h <;> first | exact key _ h | cases h
  | .new o k, w, b, w', h => by simp only [Sem.run] at h; have := run_drawn p _ _ b w' h; exact this
  | .shape r k, w, b, w', h => by simp only [Sem.run] at h; exact run_drawn p _ _ b w' h
  | .freeze a n k, w, b, w', h => by
    simp only [Sem.run] at h
    have := run_drawn p _ _ b w' h
    unfold World.freeze at this
    split at this <;> exact this
  | .frozen a k, w, b, w', h => by simp only [Sem.run] at h; exact run_drawn p _ _ b w' h
  | .getObj r k, w, b, w', h => by
    simp only [Sem.run] at h
    split at h
    · cases h
    · exact run_drawn p _ _ b w' h
    · cases h
  | .setObj r o k, w, b, w', h => by
    simp only [Sem.run] at h
    split at h
    · cases h
    · have := run_drawn p _ _ b w' h; exact this
    · cases h
  | .choose q k, w, b, w', h => by
    simp only [Sem.run] at h
    split at h
    · exact run_drawn p _ _ b w' h
    · exact Nat.le_trans (Nat.le_succ _) (run_drawn p _ _ b w' h)
  | .sys c k, w, b, w', h => by simp only [Sem.run] at h; exact Nat.le_trans (sys_drawn w c) (run_drawn p _ _ b w' h)
  | .program k, w, b, w', h => by simp only [Sem.run] at h; exact run_drawn p _ _ b w' h
  | .mark m k, w, b, w', h => by simp only [Sem.run] at h; exact run_drawn p _ _ b w' h
  | .halt x, w, b, w', h => by simp only [Sem.run] at h; cases h
theorem runes_int (s : ByteArray) : ∀ (bound i : Nat) (acc : Array Value), (∀ x ∈ acc.toList, ∃ n, x = .int .i32 n) → ∀ x ∈ (Conv.runesFrom s bound i acc).toList, ∃ n, x = .int .i32 n
  | 0, _, acc, h => h
  | bound + 1, i, acc, h => by
    unfold Conv.runesFrom
    split
    · refine runes_int s bound _ _ fun x hx => ?_
      simp at hx
      rcases hx with hx | rfl
      · exact h x (by simpa using hx)
      · exact ⟨_, rfl⟩
    · exact h
end Go.Eva
