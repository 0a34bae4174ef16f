/-
  The evaluator, the printed walks and the plain laws, part 1 of 12.
-/
import Derived.WalkKit
import Derived.WalkSpells
import Derived.WalkLawsBesides
import Derived.Maps.AppendAt
import Derived.Deep.AppendLies
import Derived.Deep.MidRow
import Derived.Deep.Quiet
import Derived.Great.BuildSlice
set_option linter.all false
set_option linter.unnecessarySimpa false
set_option linter.deprecated false
set_option linter.unusedVariables false
set_option linter.unusedSimpArgs false
set_option linter.unusedSectionVars false

/-
  Eva, part A: abstract data ('D'), what a value reads as ('Rd'), values of a call's own memory ('T', 'AO'), and how the world stands to them ('WRel').
-/
namespace Go.Eva
open Go Go.RowKit

/-- Immutable data. -/
inductive D where
  | bool (b : Bool)
  | int (k : IntKind) (n : Int)
  | str (s : ByteArray)
  | agg (cs : List D)
  | slice (size : Nat) (els : List D)
  | fn (f : FuncId)
  | nilfn
  | map (ks vs : List D)
  | nilp
  | iface (t : TypeId) (d : D)
  | nilif
  | tup (ds : List D)
  | clo (f : FuncId) (caps : List D)
  | box (d : D)
  deriving Inhabited

def D.cells : D → List D
  | .agg cs => cs
  | d => [d]
def D.one : D → Bool
  | .agg _ => false
  | .tup _ => false
  | _ => true
def flat (els : List D) : List D := els.flatMap D.cells

/-- What is known never to turn: cells, and whole maps. -/
abbrev ME := Array MapEntry × Nat
structure Imm where
  cell : Nat → Nat → Option Value
  mp : Nat → Option ME

structure Imm.le (I J : Imm) : Prop where
  cell : ∀ b o v, I.cell b o = some v → J.cell b o = some v
  mp : ∀ b es, I.mp b = some es → J.mp b = some es
theorem Imm.le.refl (I : Imm) : I.le I := ⟨fun _ _ _ h => h, fun _ _ h => h⟩
theorem Imm.le.trans {I J K : Imm} (h : I.le J) (k : J.le K) : I.le K := ⟨fun _ _ _ x => k.cell _ _ _ (h.cell _ _ _ x), fun _ _ x => k.mp _ _ (h.mp _ _ x)⟩

/-- Value v reads as d. -/
inductive Rd (I : Imm) : Value → D → Prop
  | bool (b) : Rd I (.bool b) (.bool b)
  | int (k n) : Rd I (.int k n) (.int k n)
  | str (s) : Rd I (.string s) (.str s)
  | agg (cs : Array Value) (ds : List D) : cs.size = ds.length → (∀ d ∈ ds, d.one = true) → (∀ (i : Nat) v d, cs[i]? = some v → ds[i]? = some d → Rd I v d) → Rd I (.agg cs) (.agg ds)
  | slice0 (A c size) : c ≤ maxLen → Rd I (.slice A 0 c) (.slice size [])
  | slice (b off n c size : Nat) (els : List D) (val : Nat → Value) : els.length = n → n ≤ c → c ≤ maxLen → (∀ d ∈ els, d.cells.length = size ∧ ∀ x ∈ d.cells, x.one = true) →
      (∀ k, k < n * size → I.cell b (off + k) = some (val k)) → (∀ (k : Nat) x, (flat els)[k]? = some x → Rd I (val k) x) → Rd I (.slice (some ⟨b, off, none⟩) n c) (.slice size els)
  | fn (f) : Rd I (.func (.func f) #[] #[]) (.fn f)
  | nilfn : Rd I .nilFunc .nilfn
  | map0 : Rd I (.map none) (.map [] [])
  | map (b : Nat) (es : ME) (ks vs : List D) : I.mp b = some es → es.1.size = ks.length → es.1.size = vs.length → (∀ (i : Nat) (e : MapEntry) (d : D), es.1[i]? = some e → ks[i]? = some d → Rd I e.key d) → (∀ (i : Nat) (e : MapEntry) (d : D), es.1[i]? = some e → vs[i]? = some d → Rd I e.val d) → Rd I (.map (some b)) (.map ks vs)
  | nilp : Rd I (.pointer none) .nilp
  | iface (t v d) : Rd I v d → Rd I (.iface t v) (.iface t d)
  | nilif : Rd I .nilIface .nilif
  | tup (vs : Array Value) (ds : List D) : vs.size = ds.length → (∀ (i : Nat) v d, vs[i]? = some v → ds[i]? = some d → Rd I v d) → Rd I (.tuple vs) (.tup ds)
  | clo (f) (vs : Array Value) (ds : List D) : vs.size = ds.length → (∀ (i : Nat) v d, vs[i]? = some v → ds[i]? = some d → Rd I v d) → Rd I (.func (.func f) #[] vs) (.clo f ds)
  | box (b : Nat) (d : D) (val : Nat → Value) : (∀ x ∈ d.cells, x.one = true) → (∀ k, k < d.cells.length → I.cell b k = some (val k)) → (∀ (k : Nat) x, d.cells[k]? = some x → Rd I (val k) x) → Rd I (.pointer (some ⟨b, 0, none⟩)) (.box d)

theorem Rd.mono {I J : Imm} (h : I.le J) {v : Value} {d : D} (r : Rd I v d) : Rd J v d := by
  induction r with
  | bool b => exact .bool b
  | int k n => exact .int k n
  | str s => exact .str s
  | agg cs ds h1 h2 _ ih => exact .agg cs ds h1 h2 ih
  | slice0 A c size h => exact .slice0 A c size h
  | slice b off n c size els val h1 h2 h3 h4 h5 _ ih => exact .slice b off n c size els val h1 h2 h3 h4 (fun k hk => h.cell _ _ _ (h5 k hk)) ih
  | fn f => exact .fn f
  | nilfn => exact .nilfn
  | map0 => exact .map0
  | map b es ks vs h1 h2 h3 _ _ ih1 ih2 => exact .map b es ks vs (h.mp _ _ h1) h2 h3 ih1 ih2
  | nilp => exact .nilp
  | iface t v d _ ih => exact .iface t v d ih
  | nilif => exact .nilif
  | tup vs ds h1 _ ih => exact .tup vs ds h1 ih
  | clo f vs ds h1 _ ih => exact .clo f vs ds h1 ih
  | box b d val h1 h2 _ ih => exact .box b d val h1 (fun k hk => h.cell _ _ _ (h2 k hk)) ih

theorem Rd.one {I : Imm} {v : Value} {d : D} (h : Rd I v d) (hd : d.one = true) : v.oneCell' = true := by
  cases h <;> simp_all [D.one, Value.oneCell']

/-- The cells of a value read as the cells of the datum. -/
theorem Rd.cells {I : Imm} {v : Value} {d : D} (h : Rd I v d) (ht : ∀ ds, d ≠ .tup ds) : v.cells.size = d.cells.length ∧ (∀ x ∈ d.cells, x.one = true) ∧ ∀ (i : Nat) x y, v.cells[i]? = some x → d.cells[i]? = some y → Rd I x y := by
  cases h with
  | agg cs ds h1 h2 h3 => exact ⟨h1, h2, h3⟩
  | tup vs ds h1 h2 => exact absurd rfl (ht ds)
  | _ =>
    refine ⟨by simp [Value.cells, D.cells], by simp [D.cells, D.one], fun i x y hx hy => ?_⟩
    simp only [Value.cells, D.cells] at hx hy
    rcases i with _ | i
    · simp at hx hy
      subst hx; subst hy
      constructor <;> assumption
    · simp at hx

/-- What a slot or a cell of the call's own holds. -/
inductive T where
  | undef
  | d (x : D)
  | nils (size : Nat)
  | ptr (id off : Nat)
  | eptr (size : Nat) (els : List D) (k off : Nat)
  | row (id : Nat)
  | rptr (id k off : Nat)
  | map (id : Nat)
  | tup (ts : List T)
  | cond (pc : List (Nat × Bool × Bool)) (t : T)
  deriving Inhabited

/-- An object of the call's own. -/
inductive AO where
  | dead
  | var (ty : TypeId) (cs : List T)
  | row (e size : Nat) (els : List D)
  | frow (e size : Nat) (els : List D)
  | map (ks vs : List D)
  | fmap (ks vs : List D)
  | iter (ks vs : List D) (done : List Nat)
  deriving Inhabited

def AO.isVar : AO → Bool | .var .. => true | .iter .. => true | _ => false
def AO.isRow : AO → Bool | .row .. => true | .frow .. => true | .map .. => true | .fmap .. => true | _ => false
def isVar (l : List AO) (id : Nat) : Bool := ((l[id]?).map AO.isVar).getD false
def isRow (l : List AO) (id : Nat) : Bool := ((l[id]?).map AO.isRow).getD false

def holds : List (Nat × Bool × Bool) → Prop
  | [] => True
  | (_, c, b) :: r => c = b ∧ holds r

inductive RdT (I : Imm) (m : Nat → Value) (l : List AO) : Value → T → Prop
  | undef (v) : RdT I m l v .undef
  | d (v x) : Rd I v x → RdT I m l v (.d x)
  | nils (size) : RdT I m l (.slice none 0 0) (.nils size)
  | ptr (id b off) : isVar l id = true → m id = .pointer (some ⟨b, 0, none⟩) → RdT I m l (.pointer (some ⟨b, off, none⟩)) (.ptr id off)
  | eptr (b o size els k off) (val : Nat → Value) : k < els.length → (∀ d ∈ els, d.cells.length = size ∧ ∀ x ∈ d.cells, x.one = true) →
      (∀ j, j < els.length * size → I.cell b (o + j) = some (val j)) → (∀ (j : Nat) x, (flat els)[j]? = some x → Rd I (val j) x) → RdT I m l (.pointer (some ⟨b, o + k * size + off, none⟩)) (.eptr size els k off)
  | row (A : Option Addr) (n c id : Nat) : id < l.length → (isRow l id = true → m id = .slice A n c) → RdT I m l (.slice A n c) (.row id)
  | rptr (a : Addr) (id k off) : id < l.length → (∀ e size els, (l[id]? = some (.row e size els) ∨ l[id]? = some (.frow e size els)) → ∃ b n c, m id = .slice (some ⟨b, 0, none⟩) n c ∧ a = ⟨b, k * size + off, none⟩) → RdT I m l (.pointer (some a)) (.rptr id k off)
  | map (r : Option Nat) (id : Nat) : id < l.length → (isRow l id = true → m id = .map r) → RdT I m l (.map r) (.map id)
  | tup (vs : Array Value) (ts : List T) : vs.size = ts.length → (∀ (i : Nat) v t, vs[i]? = some v → ts[i]? = some t → RdT I m l v t) → RdT I m l (.tuple vs) (.tup ts)
  | cond (v pc t) : (holds pc → RdT I m l v t) → (¬ holds pc → v = Go.undef) → RdT I m l v (.cond pc t)

/-- Later: what was known stands. -/
structure Le (I : Imm) (m : Nat → Value) (l : List AO) (J : Imm) (m' : Nat → Value) (l' : List AO) : Prop where
  imm : I.le J
  len : l.length ≤ l'.length
  var : ∀ id, id < l.length → isVar l id = true → isVar l' id = true ∧ m' id = m id
  row : ∀ id, id < l.length → isRow l' id = true → isRow l id = true ∧ m' id = m id
  rows : ∀ id e size els, id < l.length → (l'[id]? = some (.row e size els) ∨ l'[id]? = some (.frow e size els)) → ∃ els', (l[id]? = some (.row e size els') ∨ l[id]? = some (.frow e size els'))

theorem Le.refl (I : Imm) (m : Nat → Value) (l : List AO) : Le I m l I m l := ⟨.refl I, Nat.le_refl _, fun _ _ h => ⟨h, rfl⟩, fun _ _ h => ⟨h, rfl⟩, fun _ _ _ els _ h => ⟨els, h⟩⟩
theorem Le.trans {I J K : Imm} {m m' m'' : Nat → Value} {l l' l'' : List AO} (h : Le I m l J m' l') (k : Le J m' l' K m'' l'') : Le I m l K m'' l'' where
  imm := h.imm.trans k.imm
  len := Nat.le_trans h.len k.len
  var id hid hv := by
    obtain ⟨h1, h2⟩ := h.var id hid hv
    obtain ⟨k1, k2⟩ := k.var id (Nat.lt_of_lt_of_le hid h.len) h1
    exact ⟨k1, k2.trans h2⟩
  row id hid hv := by
    obtain ⟨k1, k2⟩ := k.row id (Nat.lt_of_lt_of_le hid h.len) hv
    obtain ⟨h1, h2⟩ := h.row id hid k1
    exact ⟨h1, k2.trans h2⟩
  rows id e size els hid hv := by
    obtain ⟨els', h'⟩ := k.rows id e size els (Nat.lt_of_lt_of_le hid h.len) hv
    exact h.rows id e size els' hid h'

theorem isVar_lt {l : List AO} {id : Nat} (h : isVar l id = true) : id < l.length := by
  unfold isVar at h
  rcases Nat.lt_or_ge id l.length with h' | h'
  · exact h'
  · rw [List.getElem?_eq_none h'] at h; simp at h

theorem RdT.mono {I J : Imm} {m m' : Nat → Value} {l l' : List AO} (h : Le I m l J m' l') {v : Value} {t : T} (r : RdT I m l v t) : RdT J m' l' v t := by
  induction r with
  | undef v => exact .undef v
  | d v x r => exact .d v x (r.mono h.imm)
  | nils s => exact .nils s
  | ptr id b off h1 h2 =>
    obtain ⟨k1, k2⟩ := h.var id (isVar_lt h1) h1
    exact .ptr id b off k1 (k2.trans h2)
  | eptr b o size els k off val h1 h2 h3 h4 => exact .eptr b o size els k off val h1 h2 (fun j hj => h.imm.cell _ _ _ (h3 j hj)) (fun j x hx => (h4 j x hx).mono h.imm)
  | row A n c id h1 h2 =>
    refine .row A n c id (Nat.lt_of_lt_of_le h1 h.len) fun hl => ?_
    obtain ⟨k1, k2⟩ := h.row id h1 hl
    exact k2.trans (h2 k1)
  | rptr a id k off h1 h2 =>
    refine .rptr a id k off (Nat.lt_of_lt_of_le h1 h.len) fun e size els hl => ?_
    obtain ⟨els', h'⟩ := h.rows id e size els h1 hl
    obtain ⟨b, n, c, q1, q2⟩ := h2 e size els' h'
    have : isRow l' id = true := by unfold isRow; rcases hl with hl | hl <;> simp [hl, AO.isRow]
    exact ⟨b, n, c, (h.row id h1 this).2.trans q1, q2⟩
  | map r id h1 h2 =>
    refine .map r id (Nat.lt_of_lt_of_le h1 h.len) fun hl => ?_
    obtain ⟨k1, k2⟩ := h.row id h1 hl
    exact k2.trans (h2 k1)
  | tup vs ts h1 _ ih => exact .tup vs ts h1 ih
  | cond v pc t _ hn ih => exact .cond v pc t ih hn

def own : Value → Option Nat
  | .pointer (some a) => some a.block
  | .slice (some a) _ _ => some a.block
  | .map (some b) => some b
  | _ => none

/-- No cell of block b is known as immutable; no map either. -/
def Imm.noB (I : Imm) (b : Nat) : Prop := (∀ o, I.cell b o = none) ∧ I.mp b = none

/-- The block is a map; its entries' stamps are in order, no key is there twice. -/
def MapAt (o : Option Obj) (es : ME) : Prop := o = some (.map es.1 es.2) ∧ MapKept.Stamped es.1 es.2
theorem MapAt.to {o o' : Option Obj} {es : ME} (h : o' = o) (k : MapAt o es) : MapAt o' es := ⟨h.trans k.1, k.2⟩
def bornAt (es : ME) (i : Nat) : Nat := ((es.1[i]?).map (·.born)).getD 0
def ObjOk (B : Nat) (w : World) (I : Imm) (m : Nat → Value) (l : List AO) (v : Value) : AO → Prop
  | .dead => True
  | .var ty cs => ∃ b vs, v = .pointer (some ⟨b, 0, none⟩) ∧ B ≤ b ∧ w.heap[b]? = some (.cells vs ty (0, 0)) ∧ vs.size = cs.length ∧ (∀ (i : Nat) x t, vs[i]? = some x → cs[i]? = some t → RdT I m l x t ∧ x.oneCell' = true) ∧ I.noB b
  | .row e size els => ∃ xs, w.ownsRow B e size v els.length xs ∧ (∀ d ∈ els, d.cells.length = size ∧ ∀ x ∈ d.cells, x.one = true) ∧ (∀ (j : Nat) x y, xs[j]? = some x → (flat els)[j]? = some y → Rd I x y) ∧ (∀ b, own v = some b → I.noB b)
  | .frow e size els => ∃ xs, w.ownsRow B e size v els.length xs ∧ (∀ d ∈ els, d.cells.length = size ∧ ∀ x ∈ d.cells, x.one = true) ∧ (∀ (j : Nat) x y, xs[j]? = some x → (flat els)[j]? = some y → Rd I x y) ∧ (∀ b, own v = some b → I.mp b = none ∧ (∀ (j : Nat) x, xs[j]? = some x → I.cell b j = some x) ∧ ∀ j, xs.length ≤ j → I.cell b j = none)
  | .map ks vs => ∃ b es, v = .map (some b) ∧ B ≤ b ∧ MapAt w.heap[b]? es ∧ es.1.size = ks.length ∧ es.1.size = vs.length ∧ (∀ (i : Nat) (e : MapEntry) (d : D), es.1[i]? = some e → ks[i]? = some d → Rd I e.key d) ∧ (∀ (i : Nat) (e : MapEntry) (d : D), es.1[i]? = some e → vs[i]? = some d → Rd I e.val d) ∧ I.noB b
  | .fmap ks vs => ∃ b es, v = .map (some b) ∧ B ≤ b ∧ MapAt w.heap[b]? es ∧ es.1.size = ks.length ∧ es.1.size = vs.length ∧ (∀ (i : Nat) (e : MapEntry) (d : D), es.1[i]? = some e → ks[i]? = some d → Rd I e.key d) ∧ (∀ (i : Nat) (e : MapEntry) (d : D), es.1[i]? = some e → vs[i]? = some d → Rd I e.val d) ∧ (∀ o, I.cell b o = none) ∧ I.mp b = some es
  | .iter ks vs done => ∃ b mb es seen, v = .pointer (some ⟨b, 0, none⟩) ∧ B ≤ b ∧ w.heap[b]? = some (.mapIter (some mb) es.2 seen es.2) ∧ I.mp mb = some es ∧ es.1.size = ks.length ∧ es.1.size = vs.length ∧ (∀ (i : Nat) (e : MapEntry) (d : D), es.1[i]? = some e → ks[i]? = some d → Rd I e.key d) ∧ (∀ (i : Nat) (e : MapEntry) (d : D), es.1[i]? = some e → vs[i]? = some d → Rd I e.val d) ∧ (seen.toList = done.map (bornAt es) ∧ ∀ i ∈ done, i < es.1.size) ∧ I.noB b

/-- What is immutable stands in the world. -/
structure SatI (w : World) (I : Imm) : Prop where
  cell : ∀ b o v, I.cell b o = some v → w.cell? ⟨b, o, none⟩ = some v
  mp : ∀ b es, I.mp b = some es → MapAt w.heap[b]? es
theorem SatI.lt {w : World} {I : Imm} (h : SatI w I) {b o : Nat} {v : Value} (hc : I.cell b o = some v) : b < w.heap.size := World.block_lt_of_cell? w ⟨b, o, none⟩ (h.cell b o v hc)
theorem SatI.ltm {w : World} {I : Imm} (h : SatI w I) {b : Nat} {es : ME} (hc : I.mp b = some es) : b < w.heap.size := by
  have hh := h.mp b es hc
  exact (Array.getElem?_eq_some_iff.1 hh.1).1
theorem SatI.noB {w : World} {I : Imm} (h : SatI w I) {b : Nat} (hb : w.heap.size ≤ b) : I.noB b := by
  refine ⟨fun o => ?_, ?_⟩
  · cases hc : I.cell b o with
    | none => rfl
    | some v => have := h.lt hc; omega
  · cases hc : I.mp b with
    | none => rfl
    | some v => have := h.ltm hc; omega

structure ExtI (B : Nat) (I J : Imm) : Prop where
  le : I.le J
  cell : ∀ b, b < B → J.cell b = I.cell b
  mp : ∀ b, b < B → J.mp b = I.mp b
theorem ExtI.refl (B : Nat) (I : Imm) : ExtI B I I := ⟨.refl I, fun _ _ => rfl, fun _ _ => rfl⟩
theorem ExtI.trans {B B' : Nat} {I J K : Imm} (h : ExtI B I J) (k : ExtI B' J K) (hB : B ≤ B') : ExtI B I K :=
  ⟨h.le.trans k.le, fun b hb => (k.cell b (by omega)).trans (h.cell b hb), fun b hb => (k.mp b (by omega)).trans (h.mp b hb)⟩

def alive (l : List AO) (id : Nat) : Bool := isVar l id || isRow l id

/-- Are draws kept count of? (The shelf's sorts ask it of a comparing function; its iterators do not say it.) -/
class Drw where
  on : Prop
variable [Drw]
/-- Below block B the world is as it was; no draw is taken back. -/
structure Bel (B : Nat) (w w' : World) : Prop where
  os : w'.os = w.os
  tape : w'.tape = w.tape
  output : w'.output = w.output
  size : w.heap.size ≤ w'.heap.size
  block : ∀ k, k < B → w'.heap[k]? = w.heap[k]?
  drawn : Drw.on → w.drawn ≤ w'.drawn
theorem Bel.refl (B : Nat) (w : World) : Bel B w w := ⟨rfl, rfl, rfl, Nat.le_refl _, fun _ _ => rfl, fun _ => Nat.le_refl _⟩
theorem Bel.below {B : Nat} {w w' : World} (h : Bel B w w') : Below B w w' := ⟨h.os, h.tape, h.output, h.size, h.block⟩
theorem Bel.of {B : Nat} {w w' : World} (h : Below B w w') (hd : Drw.on → w.drawn ≤ w'.drawn) : Bel B w w' := ⟨h.os, h.tape, h.output, h.size, h.block, hd⟩
theorem Bel.trans {B : Nat} {a b c : World} (h : Bel B a b) (k : Bel B b c) : Bel B a c := .of (h.below.trans k.below) fun o => Nat.le_trans (h.drawn o) (k.drawn o)
theorem Bel.mono {B B' : Nat} {w w' : World} (h : Bel B w w') (hB : B' ≤ B) : Bel B' w w' := .of (h.below.mono hB) h.drawn
theorem Bel.alloc {B : Nat} {w w' : World} (h : Bel B w w') (hB : B ≤ w'.heap.size) (o : Obj) : Bel B w (w'.alloc o) := .of (h.below.alloc hB o) h.drawn
theorem Bel.drew {B : Nat} {w w' : World} (h : Bel B w w') : Bel B w w'.drew := .of h.below.drew fun o => Nat.le_trans (h.drawn o) (Nat.le_succ _)

/-- The world w stands to the objects l of a call that began at the world w0 with the immutable I0. -/
structure WRel (w0 : World) (I0 : Imm) (w : World) (I : Imm) (m : Nat → Value) (l : List AO) : Prop where
  below : Bel w0.heap.size w0 w
  sat : SatI w I
  ext : ExtI w0.heap.size I0 I
  obj : ∀ id o, l[id]? = some o → ObjOk w0.heap.size w I m l (m id) o
  sep : ∀ i j b, i ≠ j → alive l i = true → alive l j = true → own (m i) = some b → own (m j) ≠ some b

end Go.Eva

/-
  Eva, part Aa: no run lowers the count of draws.
-/
namespace Go.Eva
open Go Go.RowKit

theorem ask_drawn {α : Type} : ∀ (x : Ask α) (w : World), w.drawn ≤ (w.ask x).2.drawn
  | .done a, w => Nat.le_refl _
  | .ask what range k, w => by
    simp only [World.ask]
    split
    · exact ask_drawn _ w
    · exact Nat.le_trans (Nat.le_succ _) (ask_drawn (k _) { w with drawn := w.drawn + 1 })
theorem sys_drawn (w : World) (c : Sys) : w.drawn ≤ (w.sys c).2.drawn := by
  unfold World.sys
  have h := ask_drawn (Kernel.perform c w.os) w
  split
  · exact Nat.le_refl _
  · rename_i r os w' hne he
    rw [he] at h; exact h
theorem viewStore_drawn {p : Program} {w w' : World} {at_ : Addr} {u : TypeId} {k : Addr} {v : Value} {atomic : Bool} {l : List Addr} (h : w.viewStore p at_ u k v atomic = .ok (w', l)) : w'.drawn = w.drawn := by
  unfold World.viewStore at h
  simp only [bind, Except.bind, pure, Except.pure, throw, throwThe, MonadExceptOf.throw] at h
  repeat' split at h
  all_goals first | cases h; done | skip
  all_goals (injection h with h; injection h with h _; subst h; rfl)
theorem farStore_drawn {p : Program} {w w' : World} {a : Addr} {v : Value} {atomic : Bool} {l : List Addr} (h : w.farStore p a v atomic = .ok (w', l)) : w'.drawn = w.drawn := by
  unfold World.farStore at h
  split at h
  · split at h
    · rename_i r hr
      injection h with h; subst h; exact viewStore_drawn hr
    · cases h
  · cases h
theorem run_drawn {α : Type} (p : Program) : ∀ (s : Sem α) (w : World) (a : α) (w' : World), s.run p w = .ok a w' → w.drawn ≤ w'.drawn
  | .pure a, w, b, w', h => by simp only [Sem.run] at h; cases h; exact Nat.le_refl _
  | .load m a k, w, b, w', h => by
    simp only [Sem.run] at h
    split at h
    · exact run_drawn p _ w b w' h
    · split at h
      · exact run_drawn p _ w b w' h
      · cases h
  | .store m a v k, w, b, w', h => by
    have key : ∀ u : Value, (match w.cell? a with
        | some _ => if w.frozen? a then Result.halt (.unsupported (.unsafePointer "a write to bytes that a string shares")) w else k.run p (w.setCell a u)
        | none => match w.farStore p a u (m == .atomic) with
          | .ok (w, _) => k.run p w
          | .error h => .halt h w) = Result.ok b w' → w.drawn ≤ w'.drawn := by
      intro u h
      split at h
      · split at h
        · cases h
        · have := run_drawn p k _ b w' h; exact this
      · split at h
        · rename_i w2 l hf
          have := run_drawn p k _ b w' h
          rw [farStore_drawn hf] at this; exact this
        · cases h
    cases v <;> simp only [Sem.run] at h <;> first | exact key _ h | cases h
  | .new o k, w, b, w', h => by simp only [Sem.run] at h; have := run_drawn p _ _ b w' h; exact this
  | .shape r k, w, b, w', h => by simp only [Sem.run] at h; exact run_drawn p _ _ b w' h
  | .freeze a n k, w, b, w', h => by
    simp only [Sem.run] at h
    have := run_drawn p _ _ b w' h
    unfold World.freeze at this
    split at this <;> exact this
  | .frozen a k, w, b, w', h => by simp only [Sem.run] at h; exact run_drawn p _ _ b w' h
  | .getObj r k, w, b, w', h => by
    simp only [Sem.run] at h
    split at h
    · cases h
    · exact run_drawn p _ _ b w' h
    · cases h
  | .setObj r o k, w, b, w', h => by
    simp only [Sem.run] at h
    split at h
    · cases h
    · have := run_drawn p _ _ b w' h; exact this
    · cases h
  | .choose q k, w, b, w', h => by
    simp only [Sem.run] at h
    split at h
    · exact run_drawn p _ _ b w' h
    · exact Nat.le_trans (Nat.le_succ _) (run_drawn p _ _ b w' h)
  | .sys c k, w, b, w', h => by simp only [Sem.run] at h; exact Nat.le_trans (sys_drawn w c) (run_drawn p _ _ b w' h)
  | .program k, w, b, w', h => by simp only [Sem.run] at h; exact run_drawn p _ _ b w' h
  | .mark m k, w, b, w', h => by simp only [Sem.run] at h; exact run_drawn p _ _ b w' h
  | .halt x, w, b, w', h => by simp only [Sem.run] at h; cases h
theorem runes_int (s : ByteArray) : ∀ (bound i : Nat) (acc : Array Value), (∀ x ∈ acc.toList, ∃ n, x = .int .i32 n) → ∀ x ∈ (Conv.runesFrom s bound i acc).toList, ∃ n, x = .int .i32 n
  | 0, _, acc, h => h
  | bound + 1, i, acc, h => by
    unfold Conv.runesFrom
    split
    · refine runes_int s bound _ _ fun x hx => ?_
      simp at hx
      rcases hx with hx | rfl
      · exact h x (by simpa using hx)
      · exact ⟨_, rfl⟩
    · exact h
end Go.Eva

/-
  Eva, part B: the evaluator over abstract data.
-/
namespace Go.Eva
open Go Go.RowKit

inductive TD where
  | prim
  | intk (k : IntKind)
  | string
  | slice (e : TypeId)
  | struct (fs : List (Nat × TypeId))
  | array (n : Nat) (e : TypeId)
  | map (k v : TypeId)
  deriving DecidableEq, Inhabited

structure TI where
  size : Nat
  bytes : Nat
  zero : List D
  desc : TD

def TD.agg : TD → Bool
  | .struct _ => true
  | .array _ _ => true
  | _ => false

abbrev TEnv := TypeId → Option TI
/-- What a function gives for data, and what it asks. -/
abbrev CEnv := FuncId → List D → Option (D × Prop)
/-- What a function does to slots and objects, and what it asks. -/
structure FR where
  t : T
  l : List AO
  ob : Prop
abbrev FEnv := FuncId → List T → List AO → Option FR

def mkD (agg : Bool) (cs : List D) : D := if agg then .agg cs else cs.headD .nilp

inductive Eff where
  | none
  | new (o : AO)
  | upd (l : List AO)

structure R where
  t : T
  eff : Eff
  ob : Prop

def R.ok (t : T) : R := ⟨t, .none, True⟩
def R.bad : R := ⟨.undef, .none, False⟩

def zeroCellD : Value → D → Bool
  | .bool b, .bool c => b == c
  | .int k n, .int k' n' => k == k' && n == n'
  | .string s, .str s' => s.data == s'.data
  | .slice none 0 0, .slice _ [] => true
  | .pointer none, .nilp => true
  | .map none, .map [] [] => true
  | .nilFunc, .nilfn => true
  | .nilIface, .nilif => true
  | _, _ => false

def constT : Value → T
  | .bool b => .d (.bool b)
  | .int k n => .d (.int k n)
  | .string s => .d (.str s)
  | .slice none 0 0 => .nils 0
  | .pointer none => .d .nilp
  | .map none => .d (.map [] [])
  | .nilFunc => .d .nilfn
  | .nilIface => .d .nilif
  | _ => .undef

/-- Slots: the newest first. -/
abbrev Tm := List (Nat × T)
def get : Tm → Nat → T
  | [], _ => .undef
  | (i, t) :: r, k => if i = k then t else get r k
def putT (s : Tm) (dst : Option Nat) (t : T) : Tm := match dst with | some d => (d, t) :: s | none => s

def evT (s : Tm) : Operand → T
  | .tmp t => get s t
  | .const v => constT v
  | .func f => .d (.fn f)
  | .global _ => .undef

structure St where
  t : Tm
  l : List AO

/-- As data. -/
def toD (l : List AO) : T → Option (D × List AO)
  | .d x => some (x, l)
  | .nils s => some (.slice s [], l)
  | .row id => match l[id]? with
    | some (.frow _ s els) => some (.slice s els, l)
    | some (.row e s els) => some (.slice s els, l.set id (.frow e s els))
    | _ => none
  | .map id => match l[id]? with
    | some (.fmap ks vs) => some (.map ks vs, l)
    | some (.map ks vs) => some (.map ks vs, l.set id (.fmap ks vs))
    | _ => none
  | _ => none

def argsD : List AO → List T → Option (List D × List AO)
  | l, [] => some ([], l)
  | l, t :: ts => match toD l t with
    | none => none
    | some (x, l') => match argsD l' ts with
      | none => none
      | some (xs, l'') => some (x :: xs, l'')

/-- Does the conversion leave the objects as they are? -/
def quietT (l : List AO) : T → Bool
  | .d _ => true
  | .nils _ => true
  | .row id => match l[id]? with | some (.frow ..) => true | _ => false
  | .map id => match l[id]? with | some (.fmap ..) => true | _ => false
  | _ => false

def arith (k : IntKind) (n : Int) : D × Prop :=
  match k with
  | .i64 => (.int .i64 n, -9223372036854775808 ≤ n ∧ n ≤ 9223372036854775807)
  | k => (.int k (k.wrap n), True)

mutual
def beqD : D → D → Bool
  | .bool a, .bool b => a == b
  | .int _ a, .int _ b => a == b
  | .str a, .str b => a == b
  | .agg xs, .agg ys => beqDs xs ys
  | _, _ => false
def beqDs : List D → List D → Bool
  | [], [] => true
  | x :: xs, y :: ys => beqD x y && beqDs xs ys
  | _, _ => false
end

def scalarD : D → Bool
  | .bool _ | .int _ _ | .str _ => true
  | _ => false

/-- A part of a value that '==' looks at. -/
inductive Lf where
  | bool
  | int (k : IntKind)
  | str
  deriving DecidableEq
def lfOk : Lf → D → Bool
  | .bool, .bool _ => true
  | .int k, .int k' _ => k == k'
  | .str, .str _ => true
  | _, _ => false
def lfsOk : List Lf → List D → Bool
  | [], [] => true
  | x :: xs, d :: ds => lfOk x d && lfsOk xs ds
  | _, _ => false

/-- 'okEq t': what the type t's equality looks at. -/
def binD (okEq : TypeId → Option (List Lf)) (op : BinOp) (ty : TypeId) : D → D → Option (D × Prop)
  | .int k a, .int k' b =>
    if k ≠ k' then none else
    match op with
    | .add => some ((arith k (a + b)).1, (arith k (a + b)).2)
    | .sub => some ((arith k (a - b)).1, (arith k (a - b)).2)
    | .mul => some ((arith k (a * b)).1, (arith k (a * b)).2)
    | .quo => (match k with | .i64 => some (.int .i64 (a / b), 0 ≤ a ∧ 0 < b ∧ a ≤ 9223372036854775807) | _ => none)
    | .rem => some (.int k (a % b), 0 ≤ a ∧ 0 < b)
    | .eql => some (.bool (decide (a = b)), True)
    | .neq => some (.bool (!decide (a = b)), True)
    | .lss => some (.bool (decide (a < b)), True)
    | .leq => some (.bool (decide (a ≤ b)), True)
    | .gtr => some (.bool (decide (b < a)), True)
    | .geq => some (.bool (decide (b ≤ a)), True)
    | _ => none
  | .bool a, .bool b => match op with
    | .eql => if okEq ty = some [.bool] then some (.bool (a == b), True) else none
    | .neq => if okEq ty = some [.bool] then some (.bool (!(a == b)), True) else none
    | _ => none
  | .str a, .str b => match op with
    | .eql => some (.bool (a == b), True)
    | .neq => some (.bool (!(a == b)), True)
    | .add => some (.str (a ++ b), (a.size : Int) + (b.size : Int) ≤ 9223372036854775807)
    | _ => none
  | .agg xs, .agg ys => match op with
    | .eql => (match okEq ty with | some ls => if ls = [.bool] then none else some (.bool (beqDs xs ys), lfsOk ls xs = true ∧ lfsOk ls ys = true) | none => none)
    | .neq => (match okEq ty with | some ls => if ls = [.bool] then none else some (.bool (!(beqDs xs ys)), lfsOk ls xs = true ∧ lfsOk ls ys = true) | none => none)
    | _ => none
  | _, _ => none

def unD (op : UnOp) : D → Option (D × Prop)
  | .bool b => match op with | .not => some (.bool (!b), True) | _ => none
  | .int k n => match op with | .neg => some ((arith k (0 - n)).1, (arith k (0 - n)).2) | _ => none
  | _ => none

def ofD : Option (D × Prop) → R
  | some (x, ob) => ⟨.d x, .none, ob⟩
  | none => .bad

/-- The cells of a slot's content, where they are data. -/
def cellsT : T → List T
  | .d x => x.cells.map .d
  | t => [t]
def T.oneT : T → Bool
  | .d x => x.one
  | .tup _ => false
  | .cond _ _ => false
  | .undef => false
  | _ => true
def unD1 : T → Option D
  | .d x => some x
  | .nils s => some (.slice s [])
  | _ => none
def mkT (agg : Bool) (cs : List T) : T :=
  if agg then (match cs.mapM unD1 with | some ds => .d (.agg ds) | none => .undef) else cs.headD .undef

def setAt {α : Type} (l : List α) (off : Nat) (xs : List α) : List α := l.take off ++ xs ++ l.drop (off + xs.length)

def sizeE (E : TEnv) (t : TypeId) : Nat := ((E t).map TI.size).getD 0

def fillD (E : TEnv) (place : Nat → Option (Nat × Nat)) (cells : List D) : List (Nat × T) → Option (List D)
  | [] => some cells
  | (i, t) :: rest => match unD1 t, place i with
    | some x, some (off, size) => if x.cells.length = size ∧ off + size ≤ cells.length ∧ x.cells.all D.one = true then fillD E place (setAt cells off x.cells) rest else none
    | _, _ => none

def placeS (E : TEnv) (fs : List (Nat × TypeId)) (i : Nat) : Option (Nat × Nat) := (fs[i]?).map fun f => (f.1, sizeE E f.2)

def elAt (els : List D) (k : Nat) : D := (els[k]?).getD .nilp
/-- The one test whether an element reads as the type says: its cells' shape. -/
def isAggD : D → Bool
  | .agg _ => true
  | _ => false

def loadEl (i : TI) (size : Nat) (els : List D) (k off : Nat) : R :=
  if size = i.size ∧ off = 0 then ⟨.d (elAt els k), .none, k < els.length ∧ isAggD (elAt els k) = i.desc.agg⟩
  else ⟨.d (mkD i.desc.agg (((elAt els k).cells.drop off).take i.size)), .none, k < els.length ∧ off + i.size ≤ size⟩

def loadAs (E : TEnv) (ty : TypeId) (l : List AO) : T → R
  | .ptr id off => match E ty, l[id]? with
    | some i, some (.var _ cs) => if off + i.size ≤ cs.length then .ok (mkT i.desc.agg ((cs.drop off).take i.size)) else .bad
    | _, _ => .bad
  | .eptr size els k off => match E ty with
    | some i => loadEl i size els k off
    | none => .bad
  | .rptr id k off => match E ty, l[id]? with
    | some i, some (.row _ size els) | some i, some (.frow _ size els) => loadEl i size els k off
    | _, _ => .bad
  | _ => .bad

def storeAs (l : List AO) : T → T → R
  | .ptr id off, x => match l[id]? with
    | some (.var ty cs) => if off + (cellsT x).length ≤ cs.length then ⟨.undef, .upd (l.set id (.var ty (setAt cs off (cellsT x)))), ((cellsT x).all T.oneT) = true⟩ else .bad
    | _ => .bad
  | .rptr id k 0, .d x => match l[id]? with
    | some (.row e size els) => ⟨.undef, .upd (l.set id (.row e size (els.set k x))), x.cells.length = size ∧ x.cells.all D.one = true ∧ k < els.length⟩
    | _ => .bad
  | _, _ => .bad

def fieldP (E : TEnv) (s : TypeId) (f : Nat) : T → R
  | .ptr id off => match E s with | some ⟨_, _, _, .struct fs⟩ => (match fs[f]? with | some p => if 0 < sizeE E p.2 then .ok (.ptr id (off + p.1)) else .bad | none => .bad) | _ => .bad
  | .eptr size els k off => match E s with | some ⟨_, _, _, .struct fs⟩ => (match fs[f]? with | some p => if 0 < sizeE E p.2 then .ok (.eptr size els k (off + p.1)) else .bad | none => .bad) | _ => .bad
  | .rptr id k off => match E s with | some ⟨_, _, _, .struct fs⟩ => (match fs[f]? with | some p => if 0 < sizeE E p.2 then .ok (.rptr id k (off + p.1)) else .bad | none => .bad) | _ => .bad
  | _ => .bad

def fieldV (E : TEnv) (s : TypeId) (f : Nat) : T → R
  | .d (.agg cs) => match E s with
    | some ⟨_, _, _, .struct fs⟩ => (match fs[f]? with
      | some p => (match E p.2 with
        | some i => if p.1 + i.size ≤ cs.length ∧ 0 < i.size then .ok (.d (mkD i.desc.agg ((cs.drop p.1).take i.size))) else .bad
        | none => .bad)
      | none => .bad)
    | _ => .bad
  | _ => .bad

def intOfT : T → Option (IntKind × Int)
  | .d (.int k n) => some (k, n)
  | _ => none

def indexP (E : TEnv) (t : TypeId) (l : List AO) (x i : T) : R :=
  match E t, intOfT i with
  | some ⟨_, _, _, .slice e⟩, some (_, n) =>
    (match x with
    | .d (.slice size els) => if size = sizeE E e ∧ 0 < size then ⟨.eptr size els n.toNat 0, .none, 0 ≤ n ∧ n < els.length⟩ else .bad
    | .row id => (match l[id]? with
      | some (.row _ size els) | some (.frow _ size els) => if size = sizeE E e ∧ 0 < size then ⟨.rptr id n.toNat 0, .none, 0 ≤ n ∧ n < els.length⟩ else .bad
      | _ => .bad)
    | _ => .bad)
  | _, _ => .bad

/-- The entries of a map. -/
def mapOf (l : List AO) : T → Option (List D × List D)
  | .d (.map ks vs) => some (ks, vs)
  | .map id => match l[id]? with
    | some (.map ks vs) | some (.fmap ks vs) => some (ks, vs)
    | _ => none
  | _ => none
def lenT (E : TEnv) (t : TypeId) (l : List AO) (x : T) : R :=
  match E t with
  | some ⟨_, _, _, .string⟩ => (match x with | .d (.str s) => .ok (.d (.int .i64 s.size)) | _ => .bad)
  | some ⟨_, _, _, .slice _⟩ => (match x with
    | .d (.slice _ els) => .ok (.d (.int .i64 els.length))
    | .nils _ => .ok (.d (.int .i64 0))
    | .row id => (match l[id]? with
      | some (.row _ _ els) | some (.frow _ _ els) => .ok (.d (.int .i64 els.length))
      | _ => .bad)
    | _ => .bad)
  | some ⟨_, _, _, .map _ _⟩ => (match mapOf l x with | some (ks, _) => .ok (.d (.int .i64 ks.length)) | none => .bad)
  | _ => .bad

/-- x[lo:hi] of immutable data. -/
def sliceT (x : T) (lo hi : Option T) : R :=
  match x with
  | .d (.slice size els) =>
    (match lo, hi with
    | none, none => .ok x
    | some a, none => (match intOfT a with | some (_, n) => ⟨.d (.slice size (els.drop n.toNat)), .none, 0 ≤ n ∧ n ≤ els.length⟩ | none => .bad)
    | none, some b => (match intOfT b with | some (_, n) => ⟨.d (.slice size (els.take n.toNat)), .none, 0 ≤ n ∧ n ≤ els.length⟩ | none => .bad)
    | some a, some b => (match intOfT a, intOfT b with
      | some (_, n), some (_, h) => ⟨.d (.slice size ((els.take h.toNat).drop n.toNat)), .none, 0 ≤ n ∧ n ≤ h ∧ h ≤ els.length⟩
      | _, _ => .bad))
  | _ => .bad

/-- append(s, x...) -/
def appendT (E : TEnv) (t : TypeId) (l : List AO) (nid : Nat) (s x : T) : R :=
  match E t with
  | some ⟨_, _, _, .slice e⟩ => (match E e with
    | some i =>
      (match toD l x with
      | some (.slice sx new, l1) => if (sx = i.size ∨ new.isEmpty) ∧ 0 < i.size then
          (match s with
          | .nils _ => ⟨.row nid, .upd (l1 ++ [.row e i.size new]), new.length * i.bytes ≤ 140737488355328 ∧ new.length ≤ 9223372036854775807⟩
          | .row id => (match l1[id]? with
            | some (.row e' size els) => if e' = e ∧ size = i.size ∧ nid = l1.length then ⟨.row nid, .upd (l1.set id .dead ++ [.row e size (els ++ new)]), (els.length + new.length) * i.bytes ≤ 140737488355328 ∧ els.length + new.length ≤ 9223372036854775807⟩ else .bad
            | _ => .bad)
          | _ => .bad) else .bad
      | _ => .bad)
    | none => .bad)
  | _ => .bad

def callD (C : CEnv) (f : FuncId) (l : List AO) (ts : List T) : R :=
  match argsD l ts with
  | some (ds, l') => (match C f ds with
    | some (x, ob) => ⟨.d x, if ts.all (quietT l) then .none else .upd l', ob⟩
    | none => .bad)
  | none => .bad

def pickT (c a b : T) : R :=
  match c with
  | .d (.bool c) =>
    let f : Bool → T → Option (Bool × Prop) := fun want t => match t with
      | .d (.bool x) => some (x, True)
      | .cond pc (.d (.bool x)) => some (x, c = want → holds pc)
      | _ => none
    (match f true a, f false b with
    | some (x, p), some (y, q) => ⟨.d (.bool (if c then x else y)), .none, p ∧ q⟩
    | some (x, p), none => ⟨.d (.bool x), .none, c = true ∧ p⟩
    | none, some (y, q) => ⟨.d (.bool y), .none, c = false ∧ q⟩
    | none, none => .bad)
  | _ => .bad

def elemSize (E : TEnv) (t : TypeId) : Nat := match E t with | some ⟨_, _, _, .slice e⟩ => sizeE E e | _ => 0
/-- A nil slice of a known type. -/
def typed (E : TEnv) (t : TypeId) : T → T
  | .nils _ => .nils (elemSize E t)
  | x => x
def typedAll (E : TEnv) : List TypeId → List T → List T
  | t :: ts, x :: xs => typed E t x :: typedAll E ts xs
  | _, xs => xs

structure Env where
  E : TEnv
  C : CEnv
  okEq : TypeId → Option (List Lf)
  F : FEnv := fun _ _ _ => none
def callT (V : Env) (g : FuncId) (l : List AO) (ts : List T) : R :=
  match V.F g ts l with
  | some ⟨t, l', ob⟩ => ⟨t, .upd l', ob⟩
  | none => callD V.C g l ts

def keyIdx (n : Int) : List D → Nat → Option Nat
  | [], _ => none
  | .int _ a :: r, i => if n = a then some i else keyIdx n r (i + 1)
  | _ :: _, _ => none
def keysInt (k : IntKind) (ks : List D) : Bool := ks.all fun d => match d with | .int k' _ => k' == k | _ => false
/-- The kind of a map's keys, and what its values are. -/
def mapTy (E : TEnv) (t : TypeId) : Option (IntKind × TI) := match E t with
  | some ⟨_, _, _, .map kt e⟩ => match E kt, E e with
    | some ⟨_, _, _, .intk kk⟩, some i => some (kk, i)
    | _, _ => none
  | _ => none
def lookT (E : TEnv) (t : TypeId) (l : List AO) (x k : T) (ok : Bool) : R :=
  match mapTy E t, mapOf l x, intOfT k with
  | some (kk, i), some (ks, vs), some (kk', n) =>
    if kk = kk' then
      match keyIdx n ks 0 with
      | some j => ⟨if ok then .d (.tup [elAt vs j, .bool true]) else .d (elAt vs j), .none, keysInt kk ks = true⟩
      | none => ⟨if ok then .d (.tup [mkD i.desc.agg i.zero, .bool false]) else .d (mkD i.desc.agg i.zero), .none, keysInt kk ks = true⟩
    else .bad
  | _, _, _ => .bad
def mapPutT (E : TEnv) (t : TypeId) (l : List AO) (x k v : T) : R :=
  match mapTy E t, x, intOfT k, unD1 v with
  | some (kk, _), .map id, some (kk', n), some d =>
    if kk = kk' then
      match l[id]? with
      | some (.map ks vs) => ⟨.undef, .upd (l.set id (match keyIdx n ks 0 with | some j => .map ks (vs.set j d) | none => .map (ks ++ [.int kk n]) (vs ++ [d]))), keysInt kk ks = true⟩
      | _ => .bad
    else .bad
  | _, _, _, _ => .bad
def mapDelT (E : TEnv) (t : TypeId) (l : List AO) (x k : T) : R :=
  match mapTy E t, x, intOfT k with
  | some (kk, _), .map id, some (kk', n) =>
    if kk = kk' then
      match l[id]? with
      | some (.map ks vs) => ⟨.d (.tup []), .upd (l.set id (match keyIdx n ks 0 with | some j => .map (ks.eraseIdx j) (vs.eraseIdx j) | none => .map ks vs)), keysInt kk ks = true⟩
      | _ => .bad
    else .bad
  | _, _, _ => .bad
/-- A byte of a string. -/
def byteAt (s : ByteArray) (n : Nat) : Int := ((s[n]?).getD 0).toNat
def indexS (E : TEnv) (t : TypeId) (x i : T) : R :=
  match E t, x, intOfT i with
  | some ⟨_, _, _, .string⟩, .d (.str s), some (_, n) => ⟨.d (.int .u8 (byteAt s n.toNat)), .none, 0 ≤ n ∧ n < s.size⟩
  | _, _, _ => .bad
/-- The runes of a string. -/
def runeD : Value → D
  | .int k n => .int k n
  | _ => .nilp
def runesD (s : ByteArray) : List D := (Conv.runesFrom s s.size 0 #[]).toList.map runeD
def convT (E : TEnv) (src t : TypeId) (x : T) : R :=
  match E src, E t, x with
  | some ⟨_, _, _, .intk _⟩, some ⟨_, _, _, .intk k⟩, .d (.int _ n) => .ok (.d (.int k (k.wrap n)))
  | some ⟨_, _, _, .string⟩, some ⟨_, _, _, .slice e⟩, .d (.str s) => (match E e with
    | some ⟨1, _, _, .intk .i32⟩ => ⟨.d (.slice 1 (runesD s)), .none, s.size ≤ 16777216⟩
    | _ => .bad)
  | _, _, _ => .bad

/-- range m, of an own map; entry. -/
def rangeT (E : TEnv) (t : TypeId) (l : List AO) (nid : Nat) (x : T) : R := match E t, x with
  | some ⟨_, _, _, .map _ _⟩, .map id => (match toD l (.map id) with
    | some (.map ks vs, l') => ⟨.ptr nid 0, .upd (l' ++ [.iter ks vs []]), True⟩
    | _ => .bad)
  | _, _ => .bad
def entryT (l : List AO) (x : T) : R := match x with
  | .ptr id 0 => (match l[id]? with
    | some (.iter ks vs done) => (match done.getLast? with
      | some i => (match ks[i]?, vs[i]? with | some k, some v => .ok (.d (.tup [k, v])) | _, _ => .bad)
      | none => .bad)
    | _ => .bad)
  | _ => .bad

def evalOp (V : Env) (ρ : Operand → T) (l : List AO) (nid : Nat) (o : Oper) : R :=
  match o.op with
  | .move x | .assign x => .ok (typed V.E o.type (ρ x))
  | .pick c a b => pickT (ρ c) (ρ a) (ρ b)
  | .box e x => ⟨.ptr nid 0, .new (.var e (cellsT (ρ x))), ((cellsT (ρ x)).all T.oneT) = true⟩
  | .alloc e => (match V.E e with | some i => ⟨.ptr nid 0, .new (.var e (i.zero.map .d)), True⟩ | none => .bad)
  | .load t a => loadAs V.E t l (ρ a)
  | .store t a x => if (cellsT (ρ x)).length = sizeE V.E t ∧ 0 < sizeE V.E t then storeAs l (ρ a) (ρ x) else .bad
  | .fieldAddr s x f => fieldP V.E s f (ρ x)
  | .field s x f => fieldV V.E s f (ρ x)
  | .binOp op ty x y _ => (match ρ x, ρ y with | .d a, .d b => ofD (binD V.okEq op ty a b) | _, _ => .bad)
  | .unOp op _ x => (match ρ x with | .d a => ofD (unD op a) | _ => .bad)
  | .indexAddr t x i => indexP V.E t l (ρ x) (ρ i)
  | .slice t x lo hi none => (match V.E t, ρ x with
    | some ⟨_, _, _, .slice e⟩, .d (.slice size els) => if size = sizeE V.E e ∧ (V.E e).isSome = true then sliceT (.d (.slice size els)) (lo.map ρ) (hi.map ρ) else .bad
    | some ⟨_, _, _, .slice e⟩, .row id => (match toD l (.row id) with
      | some (.slice size els, l') => if size = sizeE V.E e ∧ (V.E e).isSome = true then ⟨(sliceT (.d (.slice size els)) (lo.map ρ) (hi.map ρ)).t, .upd l', (sliceT (.d (.slice size els)) (lo.map ρ) (hi.map ρ)).ob⟩ else .bad
      | _ => .bad)
    | _, _ => .bad)
  | .build t parts => (match V.E t with
    | some ⟨_, _, z, .struct fs⟩ => if fs.all (fun f => (V.E f.2).isSome) = true then (match fillD V.E (placeS V.E fs) z (parts.toList.map fun p => (p.1, ρ p.2)) with | some cs => .ok (.d (.agg cs)) | none => .bad) else .bad
    | _ => .bad)
  | .buildSlice t len parts => (match V.E t with
    | some ⟨_, _, _, .slice e⟩ =>
      if (V.E e).isSome = true ∧ 0 < sizeE V.E e then
        (if len = 0 then ⟨.row nid, .upd (l ++ [.row e (sizeE V.E e) []]), parts.toList.isEmpty = true⟩
        else (match parts.toList.mapM (fun p => unD1 (ρ p.2)) with
          | some ds => if parts.toList.map (·.1) = List.range len ∧ len * sizeE V.E e ≤ 16777216 ∧ ds.all (fun d => d.cells.length == sizeE V.E e && d.cells.all D.one) = true then .ok (.d (.slice (sizeE V.E e) ds)) else .bad
          | none => .bad))
      else .bad
    | _ => .bad)
  | .extract x i => (match ρ x with
    | .d (.tup ds) => (match ds[i]? with | some d => .ok (.d d) | none => .bad)
    | .tup ts => (match ts[i]? with | some t => .ok t | none => .bad)
    | _ => .bad)
  | .call c => (match c.callee with
    | .value f => (match ρ f with
      | .d (.fn g) => callT V g l (typedAll V.E c.argTypes.toList (c.args.toList.map ρ))
      | _ => .bad)
    | .builtin .len => (match c.args.toList, c.argTypes.toList with | [x], [t] => lenT V.E t l (ρ x) | _, _ => .bad)
    | .builtin .append => (match c.args.toList, c.argTypes.toList with
      | [s, x], [t, t'] => if t = t' then appendT V.E t l nid (ρ s) (ρ x) else .bad
      | _, _ => .bad)
    | .builtin .delete => (match c.args.toList, c.argTypes.toList with | [x, k], [t, _] => mapDelT V.E t l (ρ x) (ρ k) | _, _ => .bad)
    | .builtin .max => (match c.args.toList.map ρ with | [.d (.int k a), .d (.int k' b)] => if k = k' then .ok (.d (.int k (max a b))) else .bad | _ => .bad)
    | .builtin .min => (match c.args.toList.map ρ with | [.d (.int k a), .d (.int k' b)] => if k = k' then .ok (.d (.int k (min a b))) else .bad | _ => .bad)
    | _ => .bad)
  | .makeMap _ none => ⟨.map nid, .upd (l ++ [.map [] []]), True⟩
  | .mapUpdate t m k x | .insert t m k x => mapPutT V.E t l (ρ m) (ρ k) (ρ x)
  | .lookup t x k ok => lookT V.E t l (ρ x) (ρ k) ok
  | .index t x i => indexS V.E t (ρ x) (ρ i)
  | .convert src t x => convT V.E src t (ρ x)
  | .range t x => rangeT V.E t l nid (ρ x)
  | .entry x => entryT l (ρ x)
  | _ => .bad

end Go.Eva

/-
  Eva, part C: how the relation is handed on.
-/
namespace Go.Eva
open Go Go.RowKit
variable [Drw]

theorem own_ownBlock {v : Value} {b : Nat} (h : v.ownBlock = some b) : own v = some b := by
  cases v with
  | slice a n c => cases a with
    | none => simp [Value.ownBlock] at h
    | some a => simpa [Value.ownBlock, own] using h
  | _ => simp [Value.ownBlock] at h

theorem ownsRow_keep {B : Nat} {w w' : World} {e : TypeId} {size n : Nat} {v : Value} {xs : List Value} (h : w.ownsRow B e size v n xs) (hw : ∀ b, own v = some b → w'.heap[b]? = w.heap[b]?) : w'.ownsRow B e size v n xs := by
  refine ⟨h.1, ?_⟩
  rcases h.2 with hn | ⟨g, cap, cur, rfl, hb, hg, rest⟩
  · exact .inl hn
  · exact .inr ⟨g, cap, cur, rfl, hb, (hw g rfl).trans hg, rest⟩

theorem ObjOk.keep {B : Nat} {w w' : World} {I J : Imm} {m m' : Nat → Value} {l l' : List AO} {v : Value} {o : AO} (hle : Le I m l J m' l') (hw : ∀ b, own v = some b → w'.heap[b]? = w.heap[b]?)
    (hI : ∀ b, own v = some b → J.cell b = I.cell b ∧ J.mp b = I.mp b) (h : ObjOk B w I m l v o) : ObjOk B w' J m' l' v o := by
  cases o with
  | dead => trivial
  | var ty cs =>
    obtain ⟨b, vs, rfl, h1, h2, h3, h4, h5⟩ := h
    refine ⟨b, vs, rfl, h1, (hw b rfl).trans h2, h3, fun i x t hx ht => ⟨(h4 i x t hx ht).1.mono hle, (h4 i x t hx ht).2⟩, ?_⟩
    obtain ⟨e1, e2⟩ := hI b rfl
    exact ⟨fun o => by rw [e1]; exact h5.1 o, e2.trans h5.2⟩
  | row e size els =>
    obtain ⟨xs, h1, h2, h3, h4⟩ := h
    refine ⟨xs, ownsRow_keep h1 hw, h2, fun j x y hx hy => (h3 j x y hx hy).mono hle.imm, fun b hb => ?_⟩
    obtain ⟨e1, e2⟩ := hI b hb
    exact ⟨fun o => by rw [e1]; exact (h4 b hb).1 o, e2.trans (h4 b hb).2⟩
  | frow e size els =>
    obtain ⟨xs, h1, h2, h3, h4⟩ := h
    refine ⟨xs, ownsRow_keep h1 hw, h2, fun j x y hx hy => (h3 j x y hx hy).mono hle.imm, fun b hb => ?_⟩
    obtain ⟨e1, e2⟩ := hI b hb
    obtain ⟨k1, k2, k3⟩ := h4 b hb
    exact ⟨e2.trans k1, fun j x hx => by rw [e1]; exact k2 j x hx, fun j hj => by rw [e1]; exact k3 j hj⟩
  | map ks vs =>
    obtain ⟨b, es, rfl, h1, h2, h3, h4, h5, h6, h7⟩ := h
    obtain ⟨e1, e2⟩ := hI b rfl
    exact ⟨b, es, rfl, h1, MapAt.to (hw b rfl) h2, h3, h4, fun i e d he hd => (h5 i e d he hd).mono hle.imm, fun i e d he hd => (h6 i e d he hd).mono hle.imm, fun o => by rw [e1]; exact h7.1 o, e2.trans h7.2⟩
  | fmap ks vs =>
    obtain ⟨b, es, rfl, h1, h2, h3, h4, h5, h6, h7, h8⟩ := h
    obtain ⟨e1, e2⟩ := hI b rfl
    exact ⟨b, es, rfl, h1, MapAt.to (hw b rfl) h2, h3, h4, fun i e d he hd => (h5 i e d he hd).mono hle.imm, fun i e d he hd => (h6 i e d he hd).mono hle.imm, fun o => by rw [e1]; exact h7 o, e2.trans h8⟩
  | iter ks vs done =>
    obtain ⟨b, mb, es, seen, rfl, h1, h2, h3, h4, h5, h6, h7, h8, h9⟩ := h
    obtain ⟨e1, e2⟩ := hI b rfl
    exact ⟨b, mb, es, seen, rfl, h1, (hw b rfl).trans h2, hle.imm.mp _ _ h3, h4, h5, fun i e d he hd => (h6 i e d he hd).mono hle.imm, fun i e d he hd => (h7 i e d he hd).mono hle.imm, h8, fun o => by rw [e1]; exact h9.1 o, e2.trans h9.2⟩

/-- A live object's block lies in the world. -/
theorem ObjOk.lt {B : Nat} {w : World} {I : Imm} {m : Nat → Value} {l : List AO} {v : Value} {o : AO} (h : ObjOk B w I m l v o) (ho : o ≠ .dead) {b : Nat} (hb : own v = some b) : b < w.heap.size ∧ B ≤ b := by
  cases o with
  | dead => exact absurd rfl ho
  | var ty cs =>
    obtain ⟨b', vs, rfl, h1, h2, _⟩ := h
    simp only [own, Option.some.injEq] at hb
    subst hb
    exact ⟨(Array.getElem?_eq_some_iff.1 h2).1, h1⟩
  | row e size els =>
    obtain ⟨xs, h1, _⟩ := h
    rcases h1.2 with ⟨rfl, _⟩ | ⟨g, cap, cur, rfl, hb', hg, _⟩
    · simp [own] at hb
    · simp only [own, Option.some.injEq] at hb
      subst hb
      exact ⟨(Array.getElem?_eq_some_iff.1 hg).1, hb'⟩
  | frow e size els =>
    obtain ⟨xs, h1, _⟩ := h
    rcases h1.2 with ⟨rfl, _⟩ | ⟨g, cap, cur, rfl, hb', hg, _⟩
    · simp [own] at hb
    · simp only [own, Option.some.injEq] at hb
      subst hb
      exact ⟨(Array.getElem?_eq_some_iff.1 hg).1, hb'⟩
  | map ks vs =>
    obtain ⟨b', es, rfl, h1, h2, _⟩ := h
    simp only [own, Option.some.injEq] at hb
    subst hb
    exact ⟨(Array.getElem?_eq_some_iff.1 h2.1).1, h1⟩
  | fmap ks vs =>
    obtain ⟨b', es, rfl, h1, h2, _⟩ := h
    simp only [own, Option.some.injEq] at hb
    subst hb
    exact ⟨(Array.getElem?_eq_some_iff.1 h2.1).1, h1⟩
  | iter ks vs done =>
    obtain ⟨b', mb, es, seen, rfl, h1, h2, _⟩ := h
    simp only [own, Option.some.injEq] at hb
    subst hb
    exact ⟨(Array.getElem?_eq_some_iff.1 h2).1, h1⟩

theorem alive_iff {l : List AO} {id : Nat} : alive l id = true ↔ ∃ o, l[id]? = some o ∧ o ≠ .dead := by
  unfold alive isVar isRow
  cases h : l[id]? with
  | none => simp
  | some o => cases o <;> simp [AO.isVar, AO.isRow]

section
variable {w0 w w' : World} {I0 I J : Imm} {m : Nat → Value} {l : List AO}

/-- A callee has run; a draw: nothing that was there has turned. -/
theorem WRel.call (h : WRel w0 I0 w I m l) (hb : Bel w.heap.size w w') (he : ExtI w.heap.size I J) (hs : SatI w' J) : WRel w0 I0 w' J m l ∧ Le I m l J m l := by
  have hle : Le I m l J m l := ⟨he.le, Nat.le_refl _, fun _ _ k => ⟨k, rfl⟩, fun _ _ k => ⟨k, rfl⟩, fun _ _ _ els _ k => ⟨els, k⟩⟩
  refine ⟨⟨h.below.trans (hb.mono h.below.size), hs, h.ext.trans he h.below.size, fun id o ho => ?_, h.sep⟩, hle⟩
  by_cases hd : o = .dead
  · subst hd; trivial
  · exact (h.obj id o ho).keep hle (fun b hb' => hb.block b ((h.obj id o ho).lt hd hb').1) (fun b hb' => ⟨he.cell b ((h.obj id o ho).lt hd hb').1, he.mp b ((h.obj id o ho).lt hd hb').1⟩)

def upd (m : Nat → Value) (id : Nat) (v : Value) : Nat → Value := fun k => if k = id then v else m k
theorem upd_same (m : Nat → Value) (id : Nat) (v : Value) : upd m id v id = v := by simp [upd]
theorem upd_ne (m : Nat → Value) {id k : Nat} (v : Value) (h : k ≠ id) : upd m id v k = m k := by simp [upd, h]

/-- A dead place becomes an object. -/
theorem Le.new {nid : Nat} {o : AO} {v : Value} (hn : l[nid]? = some .dead) (ho : o.isRow = false) : Le I m l I (upd m nid v) (l.set nid o) := by
  have hne : ∀ id, id ≠ nid → (l.set nid o)[id]? = l[id]? := fun id h => by rw [List.getElem?_set]; simp [Ne.symm h]
  have hlt : nid < l.length := (List.getElem?_eq_some_iff.1 hn).1
  have hat : (l.set nid o)[nid]? = some o := by rw [List.getElem?_set]; simp [hlt]
  refine ⟨.refl I, by simp, fun id hid hv => ?_, fun id hid hr => ?_, fun id e size els hid hh => ?_⟩
  · have : id ≠ nid := by rintro rfl; unfold isVar at hv; rw [hn] at hv; simp [AO.isVar] at hv
    refine ⟨?_, upd_ne m v this⟩
    unfold isVar; rw [hne id this]; exact hv
  · by_cases h : id = nid
    · subst h; unfold isRow at hr; rw [hat] at hr; simp [ho] at hr
    · refine ⟨?_, upd_ne m v h⟩
      unfold isRow at hr ⊢; rw [hne id h] at hr; exact hr
  · by_cases h : id = nid
    · subst h; rw [hat] at hh; rcases hh with hh | hh <;> (injection hh with hh; subst hh; simp [AO.isRow] at ho)
    · rw [hne id h] at hh; exact ⟨els, hh⟩

theorem WRel.alloc (h : WRel w0 I0 w I m l) (ob : Obj) {nid : Nat} {o : AO} {v : Value} (hn : l[nid]? = some .dead) (ho : o.isRow = false) (hv : own v = some w.heap.size)
    (hok : ObjOk w0.heap.size (w.alloc ob) I (upd m nid v) (l.set nid o) v o) : WRel w0 I0 (w.alloc ob) I (upd m nid v) (l.set nid o) := by
  have hle : Le I m l I (upd m nid v) (l.set nid o) := Le.new hn ho
  have hlt : nid < l.length := (List.getElem?_eq_some_iff.1 hn).1
  have hat : (l.set nid o)[nid]? = some o := by rw [List.getElem?_set]; simp [hlt]
  have hne : ∀ id, id ≠ nid → (l.set nid o)[id]? = l[id]? := fun id h => by rw [List.getElem?_set]; simp [Ne.symm h]
  have hold : ∀ id, id ≠ nid → alive (l.set nid o) id = true → ∀ b, own (m id) = some b → b < w.heap.size := by
    intro id hid ha b hb
    obtain ⟨o', ho', hd⟩ := alive_iff.1 ha
    rw [hne id hid] at ho'
    exact ((h.obj id o' ho').lt hd hb).1
  refine ⟨h.below.alloc h.below.size ob, ⟨fun b o' u hc => ?_, fun b es hc => ?_⟩, h.ext, fun id o' ho' => ?_, fun i j b hij hi hj hbi hbj => ?_⟩
  · rw [World.cell?_alloc_lt w ob _ (h.sat.lt hc)]; exact h.sat.cell b o' u hc
  · have hh := h.sat.mp b es hc
    exact MapAt.to (Below.heap_alloc w ob b (h.sat.ltm hc)) hh
  · by_cases hid : id = nid
    · subst hid; rw [hat] at ho'; injection ho' with ho'; subst ho'; rw [upd_same]; exact hok
    · rw [hne id hid] at ho'; rw [upd_ne m v hid]
      by_cases hd : o' = .dead
      · subst hd; trivial
      · exact (h.obj id o' ho').keep hle (fun b hb => Below.heap_alloc w ob b ((h.obj id o' ho').lt hd hb).1) (fun b _ => ⟨rfl, rfl⟩)
  · by_cases h1 : i = nid
    · subst h1; rw [upd_same] at hbi; rw [upd_ne m v (Ne.symm hij)] at hbj
      rw [hv] at hbi; injection hbi with hbi
      have := hold j (Ne.symm hij) hj b hbj; omega
    · by_cases h2 : j = nid
      · subst h2; rw [upd_same] at hbj; rw [upd_ne m v hij] at hbi
        rw [hv] at hbj; injection hbj with hbj
        have := hold i hij hi b hbi; omega
      · rw [upd_ne m v h1] at hbi; rw [upd_ne m v h2] at hbj
        refine h.sep i j b hij ?_ ?_ hbi hbj
        · obtain ⟨o', ho', hd⟩ := alive_iff.1 hi; rw [hne i h1] at ho'; exact alive_iff.2 ⟨o', ho', hd⟩
        · obtain ⟨o', ho', hd⟩ := alive_iff.1 hj; rw [hne j h2] at ho'; exact alive_iff.2 ⟨o', ho', hd⟩

/-- A dead place at the end: nothing. -/
theorem WRel.push (h : WRel w0 I0 w I m l) : WRel w0 I0 w I m (l ++ [.dead]) ∧ Le I m l I m (l ++ [.dead]) := by
  have hne : ∀ id, id < l.length → (l ++ [AO.dead])[id]? = l[id]? := fun id hid => List.getElem?_append_left hid
  have hde : ∀ (id : Nat) o, (l ++ [AO.dead])[id]? = some o → o = AO.dead ∨ l[id]? = some o := by
    intro id o ho
    rcases Nat.lt_trichotomy id l.length with hl | hl | hl
    · rw [hne id hl] at ho; exact .inr ho
    · subst hl; simp at ho; exact .inl ho.symm
    · rw [List.getElem?_eq_none (by simp; omega)] at ho; cases ho
  have hle : Le I m l I m (l ++ [.dead]) := by
    refine ⟨.refl I, by simp, fun id hid hv => ⟨?_, rfl⟩, fun id hid hr => ⟨?_, rfl⟩, fun id e size els hid hh => ⟨els, ?_⟩⟩
    · unfold isVar at hv ⊢; rw [hne id hid]; exact hv
    · unfold isRow at hr ⊢; rw [hne id hid] at hr; exact hr
    · rw [hne id hid] at hh; exact hh
  have hal : ∀ id, alive (l ++ [AO.dead]) id = true → alive l id = true := by
    intro id ha
    obtain ⟨o, ho, hd⟩ := alive_iff.1 ha
    rcases hde id o ho with he | he
    · exact absurd he hd
    · exact alive_iff.2 ⟨o, he, hd⟩
  refine ⟨⟨h.below, h.sat, h.ext, fun id o ho => ?_, fun i j b hij hi hj => h.sep i j b hij (hal i hi) (hal j hj)⟩, hle⟩
  rcases hde id o ho with rfl | he
  · trivial
  · exact (h.obj id o he).keep hle (fun _ _ => rfl) (fun _ _ => ⟨rfl, rfl⟩)

end
end Go.Eva

/-
  Eva, part D: each operation.
-/
namespace Go.Eva
open Go Go.RowKit
variable [Drw]

/-- What the tables say of a type. -/
def descOk (P : Program) (t : TypeId) : TD → Bool
  | .prim => match P.underlying t with | some (.struct _) | some (.array _ _) | none => false | _ => true
  | .intk k => match P.underlying t with | some (.int k') => k == k' | _ => false
  | .string => match P.underlying t with | some .string => true | _ => false
  | .slice e => match P.underlying t with | some (.slice e') => e == e' | _ => false
  | .struct fs => match P.underlying t with | some (.struct gs) => decide (fs = gs.toList.map fun f => (f.offset, f.type)) | _ => false
  | .array n e => match P.underlying t with | some (.array n' e') => n == n' && e == e' | _ => false
  | .map k e => match P.underlying t with | some (.map k' e') => k == k' && e == e' | _ => false
def zerosOk : List Value → List D → Bool
  | [], [] => true
  | v :: vs, d :: ds => zeroCellD v d && zerosOk vs ds
  | _, _ => false
def isAggV : Value → Bool
  | .agg _ => true
  | _ => false
def tiOk (P : Program) (t : TypeId) (i : TI) : Bool :=
  match P.info? t with
  | some x => x.size == i.size && x.bytes == i.bytes && (match x.zero with | some z => zerosOk z.cells.toList i.zero && (isAggV z == i.desc.agg) | none => false) && descOk P t i.desc && decide (i.zero.length = i.size)
  | none => false
def TOk (P : Program) (E : TEnv) : Prop := ∀ t i, E t = some i → tiOk P t i = true

/-- A contract for plain data. -/
def PureCon (P : Program) (f : FuncId) (ds : List D) (r : D) : Prop :=
  ∀ (w : World) (I : Imm) (vs : Array Value), SatI w I → vs.size = ds.length → (∀ (i : Nat) v d, vs[i]? = some v → ds[i]? = some d → Rd I v d) →
    Calls P f vs w fun e w' => ∃ v J, e = .returned v ∧ Bel w.heap.size w w' ∧ ExtI w.heap.size I J ∧ SatI w' J ∧ Rd J v r
def Enters (P : Program) (f : FuncId) : Prop := ∀ (args : Array Value) (w : World), (callFunc f args).run P w = .ok (.enter f args) w
def COk (P : Program) (C : CEnv) : Prop := ∀ f ds r ob, C f ds = some (r, ob) → ob → Enters P f ∧ PureCon P f ds r

/-- A contract over slots and objects. -/
def FCon (P : Program) (g : FuncId) (ts : List T) (l : List AO) (t : T) (l' : List AO) : Prop :=
  ∀ (w0 : World) (I0 : Imm) (w : World) (I : Imm) (m : Nat → Value) (args : Array Value), WRel w0 I0 w I m l → args.size = ts.length → (∀ (i : Nat) v x, args[i]? = some v → ts[i]? = some x → RdT I m l v x) →
    Calls P g args w fun e w' => ∃ v, e = .returned v ∧ ∃ J m', Le I m l J m' l' ∧ WRel w0 I0 w' J m' l' ∧ RdT J m' l' v t
def FOk (P : Program) (F : FEnv) : Prop := ∀ g ts l r, F g ts l = some r → r.ob → Enters P g ∧ FCon P g ts l r.t r.l

/-- Equality at a type is that of the cells. -/
def EqOk (P : Program) (okEq : TypeId → Option (List Lf)) : Prop := ∀ t ls, okEq t = some ls → ∀ (op : BinOp) (x y : Operand) (I : Imm) (u v : Value) (a b : D) (w : World), Rd I u a → Rd I v b →
  ((∃ p q, a = .bool p ∧ b = .bool q ∧ ls = [.bool]) ∨ ∃ xs ys, a = .agg xs ∧ b = .agg ys ∧ ls ≠ [.bool] ∧ lfsOk ls xs = true ∧ lfsOk ls ys = true) → (op = .eql ∨ op = .neq) →
  ((do eqGuard op t x y u v; binOp op t u v : Sem Value)).run P w = .ok (.bool (if op = .eql then beqD a b else !(beqD a b))) w

structure VOk (P : Program) (V : Env) : Prop where
  E : TOk P V.E
  C : COk P V.C
  eq : EqOk P V.okEq
  F : FOk P V.F

def StepOk (P : Program) (r : Result Next) (Q : Value → World → Prop) : Prop :=
  match r with
  | .ok (.value v) w' => Q v w'
  | .ok .skip w' => Q undef w'
  | .ok (.enter f args) w' => Calls P f args w' fun e w'' => ∃ v, e = .returned v ∧ Q v w''
  | _ => False

theorem StepOk.mono {P : Program} {r : Result Next} {Q Q' : Value → World → Prop} (h : StepOk P r Q) (hq : ∀ v w, Q v w → Q' v w) : StepOk P r Q' := by
  unfold StepOk at *
  split at h
  · exact hq _ _ h
  · exact hq _ _ h
  · exact h.mono fun e w ⟨v, he, hv⟩ => ⟨v, he, hq _ _ hv⟩
  · exact h.elim

theorem StepOk.wp {P : Program} {o : Oper} {a : Act} {w : World} {K : Act → World → Prop} {Q : Exit → Act → World → Prop} (h : StepOk P ((execOp a.eval o).run P w) fun v w' => K (a.put o.dst v) w') : o.wp P a w K Q := by
  unfold Oper.wp
  generalize (execOp a.eval o).run P w = r at *
  unfold StepOk at h
  split at h
  · exact h
  · exact h
  · simp only [Oper.upon]
    exact h.mono fun e w ⟨v, he, hv⟩ => by subst he; exact hv
  · exact h.elim

section types
variable {P : Program} {E : TEnv} {t : TypeId} {i : TI}
theorem tiOk_parts (h : tiOk P t i = true) : ∃ x z, P.info? t = some x ∧ x.size = i.size ∧ x.bytes = i.bytes ∧ x.zero = some z ∧ zerosOk z.cells.toList i.zero = true ∧ isAggV z = i.desc.agg ∧ descOk P t i.desc = true ∧ i.zero.length = i.size := by
  unfold tiOk at h
  cases hx : P.info? t with
  | none => simp [hx] at h
  | some x =>
    simp only [hx, Bool.and_eq_true, beq_iff_eq, decide_eq_true_eq] at h
    obtain ⟨⟨⟨⟨h1, h2⟩, h3⟩, h4⟩, h5⟩ := h
    cases hz : x.zero with
    | none => simp [hz] at h3
    | some z =>
      simp only [hz, Bool.and_eq_true, beq_iff_eq] at h3
      exact ⟨x, z, rfl, h1, h2, hz, h3.1, h3.2, h4, h5⟩

theorem run_sizeOf_ti (hE : TOk P E) (h : E t = some i) (w : World) : (sizeOf t).run P w = .ok i.size w := by
  obtain ⟨x, z, h1, h2, _⟩ := tiOk_parts (hE t i h)
  simp [sizeOf, typeInfo, h1, h2]
theorem run_zero_ti (hE : TOk P E) (h : E t = some i) (w : World) : ∃ z, (zeroValue t).run P w = .ok z w ∧ zerosOk z.cells.toList i.zero = true ∧ isAggV z = i.desc.agg ∧ i.zero.length = i.size := by
  obtain ⟨x, z, h1, h2, h3, h4, h5, h6, h7, h8⟩ := tiOk_parts (hE t i h)
  exact ⟨z, by simp [zeroValue, typeInfo, h1, h4], h5, h6, h8⟩
theorem underlying_slice (hE : TOk P E) {s b : Nat} {z : List D} {e : TypeId} (h : E t = some ⟨s, b, z, .slice e⟩) : P.underlying t = some (.slice e) := by
  obtain ⟨x, z', h1, h2, h3, h4, h5, h6, h7, _⟩ := tiOk_parts (hE t _ h)
  simp only [descOk] at h7
  split at h7
  · rename_i e' he; simp at h7; subst h7; exact he
  · cases h7
theorem underlying_string (hE : TOk P E) {s b : Nat} {z : List D} (h : E t = some ⟨s, b, z, .string⟩) : P.underlying t = some .string := by
  obtain ⟨x, z', h1, h2, h3, h4, h5, h6, h7, _⟩ := tiOk_parts (hE t _ h)
  simp only [descOk] at h7
  split at h7
  · assumption
  · cases h7
theorem underlying_struct (hE : TOk P E) {s b : Nat} {z : List D} {fs : List (Nat × TypeId)} (h : E t = some ⟨s, b, z, .struct fs⟩) : ∃ gs, P.underlying t = some (.struct gs) ∧ fs = gs.toList.map fun f => (f.offset, f.type) := by
  obtain ⟨x, z', h1, h2, h3, h4, h5, h6, h7, _⟩ := tiOk_parts (hE t _ h)
  simp only [descOk] at h7
  split at h7
  · rename_i gs he; exact ⟨gs, he, of_decide_eq_true h7⟩
  · cases h7
theorem run_isAgg_ti (hE : TOk P E) (h : E t = some i) (w : World) : (isAgg t).run P w = .ok i.desc.agg w := by
  obtain ⟨x, z', h1, h2, h3, h4, h5, h6, h7, _⟩ := tiOk_parts (hE t _ h)
  unfold isAgg
  cases hu : P.underlying t with
  | none => cases hd : i.desc <;> simp [hd, descOk, hu] at h7
  | some d => cases hd : i.desc <;> cases d <;> simp [hd, descOk, hu] at h7 <;> simp [run_underlying hu, TD.agg]
end types

theorem zeroCellD_rd (I : Imm) {v : Value} {d : D} (h : zeroCellD v d = true) : Rd I v d ∧ d.one = true := by
  unfold zeroCellD at h
  split at h
  all_goals first | (cases h; done) | skip
  all_goals try simp only [Bool.and_eq_true, beq_iff_eq] at h
  · subst h; exact ⟨.bool _, rfl⟩
  · obtain ⟨rfl, rfl⟩ := h; exact ⟨.int _ _, rfl⟩
  · have := ByteArray.ext h; subst this; exact ⟨.str _, rfl⟩
  · exact ⟨.slice0 _ _ _ (Nat.zero_le _), rfl⟩
  · exact ⟨.nilp, rfl⟩
  · exact ⟨.map0, rfl⟩
  · exact ⟨.nilfn, rfl⟩
  · exact ⟨.nilif, rfl⟩
theorem zerosOk_rd (I : Imm) : ∀ (vs : List Value) (ds : List D), zerosOk vs ds = true → vs.length = ds.length ∧ (∀ d ∈ ds, d.one = true) ∧ ∀ (i : Nat) v d, vs[i]? = some v → ds[i]? = some d → Rd I v d
  | [], [], _ => ⟨rfl, by simp, by simp⟩
  | v :: vs, d :: ds, h => by
    simp only [zerosOk, Bool.and_eq_true] at h
    obtain ⟨h1, h2, h3⟩ := zerosOk_rd I vs ds h.2
    obtain ⟨k1, k2⟩ := zeroCellD_rd I h.1
    refine ⟨by simp [h1], by simp [k2]; exact h2, fun i x y hx hy => ?_⟩
    rcases i with _ | i
    · simp at hx hy; subst hx; subst hy; exact k1
    · simp at hx hy; exact h3 i x y hx hy
  | [], _ :: _, h => by simp [zerosOk] at h
  | _ :: _, [], h => by simp [zerosOk] at h

end Go.Eva

/-
  Eva, part E: loads, addresses, lengths, slices.
-/
namespace Go.Eva
open Go Go.RowKit
variable [Drw]

def Com (l L : List AO) : Prop := ∀ (id : Nat), id < l.length → L[id]? = l[id]?
theorem Com.refl (l : List AO) : Com l l := fun _ _ => rfl
theorem Com.get {l L : List AO} (h : Com l L) {id : Nat} {o : AO} (ho : l[id]? = some o) : L[id]? = some o := (h id (List.getElem?_eq_some_iff.1 ho).1).trans ho

theorem Rd.one' {I : Imm} {v : Value} {d : D} (h : Rd I v d) (hv : v.oneCell' = true) : d.one = true := by
  cases h <;> simp_all [D.one, Value.oneCell']

/-- A slot reads as data through 'unD1'. -/
theorem rd_unD1 {I : Imm} {m : Nat → Value} {L : List AO} {v : Value} {t : T} {x : D} (h : RdT I m L v t) (hx : unD1 t = some x) : Rd I v x := by
  cases h <;> simp [unD1] at hx
  · subst hx; assumption
  · subst hx; exact .slice0 _ _ _ (Nat.zero_le _)

theorem rd_mapM {I : Imm} {m : Nat → Value} {L : List AO} : ∀ (vs : List Value) (ts : List T) (ds : List D), ts.mapM unD1 = some ds → vs.length = ts.length → (∀ (i : Nat) v t, vs[i]? = some v → ts[i]? = some t → RdT I m L v t) →
    vs.length = ds.length ∧ ∀ (i : Nat) v d, vs[i]? = some v → ds[i]? = some d → Rd I v d
  | [], [], ds, h, _, _ => by simp at h; subst h; simp
  | v :: vs, t :: ts, ds, h, hl, hr => by
    simp only [List.mapM_cons, Option.bind_eq_bind, Option.bind_eq_some_iff, Option.pure_def, Option.some.injEq] at h
    obtain ⟨x, hx, xs, hxs, rfl⟩ := h
    obtain ⟨h1, h2⟩ := rd_mapM vs ts xs hxs (by simpa using hl) (fun i v t hv ht => hr (i + 1) v t (by simpa using hv) (by simpa using ht))
    refine ⟨by simp [h1], fun i u d hu hd => ?_⟩
    rcases i with _ | i
    · simp at hu hd; subst hu; subst hd
      exact rd_unD1 (hr 0 v t rfl rfl) hx
    · simp at hu hd; exact h2 i u d hu hd
  | [], _ :: _, _, _, hl, _ => by simp at hl
  | _ :: _, [], _, _, hl, _ => by simp at hl

theorem ti_size_one {P : Program} {E : TEnv} {t : TypeId} {i : TI} (hE : TOk P E) (h : E t = some i) (ha : i.desc.agg = false) : i.size = 1 := by
  obtain ⟨x, z, h1, h2, h3, h4, h5, h6, h7, h8⟩ := tiOk_parts (hE t i h)
  rw [ha] at h6
  have hz : z.cells.toList.length = 1 := by cases z <;> simp_all [isAggV, Value.cells]
  have := (zerosOk_rd (I := ⟨fun _ _ => none, fun _ => none⟩) _ _ h5).1
  omega

/-- A load of known cells. -/
theorem run_load_cells {P : Program} {E : TEnv} {t : TypeId} {i : TI} (hE : TOk P E) (h : E t = some i) (w : World) (b o : Nat) (cs : List Value) (hl : cs.length = i.size) (hc : w.rangeAt b o cs) :
    (Instr.loadAt t (.pointer (some ⟨b, o, none⟩))).run P w = .ok (if i.desc.agg then .agg cs.toArray else cs.headD undef) w := by
  have hA := run_isAgg_ti hE h
  have hS := run_sizeOf_ti hE h
  cases ha : i.desc.agg with
  | true =>
    have hl' : (loadCells ⟨b, o, none⟩ cs.length).run P w = .ok cs.toArray w :=
      run_loadCells_list (P := P) w ⟨b, o, none⟩ cs (fun j v hv => by rw [Addr.add_mid]; exact hc j v hv)
    simp only [Instr.loadAt, Instr.sureAddr, Sem.run_bind, Sem.run_pure, Result.andThen_ok, loadVar, hA, ha, hS, ← hl, hl', if_true]
  | false =>
    have h1 := ti_size_one hE h ha
    rw [h1] at hl
    match cs, hl with
    | [c], _ =>
      have hcell : w.cell? ⟨b, o, none⟩ = some c := by simpa using hc 0 c rfl
      simp [Instr.loadAt, Instr.sureAddr, Sem.run_bind, Result.andThen_ok, loadVar, hA, ha, hcell, List.headD]

theorem rangeAt_var {w : World} {b off n : Nat} {vs : Array Value} {ty : TypeId} {fr : Nat × Nat} (h : w.heap[b]? = some (.cells vs ty fr)) : w.rangeAt b off ((vs.toList.drop off).take n) := by
  intro j v hv
  rw [List.getElem?_take] at hv
  split at hv
  · rw [List.getElem?_drop] at hv
    simp only [World.cell?, h]
    simpa using hv
  · cases hv

theorem mkT_ok {I : Imm} {m : Nat → Value} {L : List AO} {i : TI} {vs : List Value} {ts : List T} (hl : vs.length = ts.length) (hn : vs.length = i.size) (h1 : i.desc.agg = false → i.size = 1)
    (hr : ∀ (j : Nat) v t, vs[j]? = some v → ts[j]? = some t → RdT I m L v t ∧ v.oneCell' = true) : RdT I m L (if i.desc.agg then .agg vs.toArray else vs.headD undef) (mkT i.desc.agg ts) := by
  cases ha : i.desc.agg with
  | true =>
    simp only [if_true, mkT]
    cases hm : ts.mapM unD1 with
    | none => exact .undef _
    | some ds =>
      obtain ⟨k1, k2⟩ := rd_mapM vs ts ds hm hl (fun j v t hv ht => (hr j v t hv ht).1)
      refine .d _ _ (.agg _ _ (by simpa using k1) (fun d hd => ?_) (fun j v d hv hd => k2 j v d (by simpa using hv) hd))
      obtain ⟨j, hj, rfl⟩ := List.mem_iff_getElem.1 hd
      have hv : vs[j]? = some (vs[j]'(by omega)) := List.getElem?_eq_getElem (by omega)
      have ht : ts[j]? = some (ts[j]'(by omega)) := List.getElem?_eq_getElem (by omega)
      exact (k2 j _ _ hv (List.getElem?_eq_getElem hj)).one' (hr j _ _ hv ht).2
  | false =>
    have := h1 ha
    match vs, ts, hl, (by omega : vs.length = 1) with
    | [v], [t], _, _ => simpa [mkT] using (hr 0 v t rfl rfl).1

/-- The cells of an element of a flat row. -/
theorem flat_get {size : Nat} : ∀ (els : List D), (∀ d ∈ els, d.cells.length = size) → ∀ (k j : Nat) (d : D), els[k]? = some d → j < size → (flat els)[k * size + j]? = d.cells[j]?
  | [], _, k, j, d, h, _ => by simp at h
  | e :: els, hs, k, j, d, h, hj => by
    have he : e.cells.length = size := hs e (by simp)
    simp only [flat, List.flatMap_cons]
    rcases k with _ | k
    · simp at h; subst h
      rw [List.getElem?_append_left (by omega)]; simp
    · simp at h
      rw [List.getElem?_append_right (by rw [he, Nat.add_mul]; omega)]
      have := flat_get els (fun d hd => hs d (by simp [hd])) k j d h hj
      rw [he]
      rw [show (k + 1) * size + j - size = k * size + j by rw [Nat.add_mul]; omega]
      exact this
theorem flat_len {size : Nat} : ∀ (els : List D), (∀ d ∈ els, d.cells.length = size) → (flat els).length = els.length * size
  | [], _ => by simp [flat]
  | e :: els, hs => by
    have := flat_len els (fun d hd => hs d (by simp [hd]))
    simp only [flat, List.flatMap_cons, List.length_append, List.length_cons] at *
    rw [hs e (by simp), this, Nat.add_mul]; omega

/-- A load of an element, or of a part of one, where the cells are known. -/
theorem loadEl_ok {P : Program} {E : TEnv} {ty : TypeId} {i : TI} (hE : TOk P E) (h : E ty = some i) {w : World} {I : Imm} {m : Nat → Value} {L : List AO} {b o size k off : Nat} {els : List D} {val : Nat → Value}
    (hs : ∀ d ∈ els, d.cells.length = size ∧ ∀ x ∈ d.cells, x.one = true)
    (hc : ∀ j, j < els.length * size → w.cell? ⟨b, o + j, none⟩ = some (val j)) (hr : ∀ (j : Nat) x, (flat els)[j]? = some x → Rd I (val j) x) (hob : (loadEl i size els k off).ob) :
    (loadEl i size els k off).eff = .none ∧ ∃ u, (Instr.loadAt ty (.pointer (some ⟨b, o + k * size + off, none⟩))).run P w = .ok u w ∧ RdT I m L u (loadEl i size els k off).t := by
  have hs' : ∀ d ∈ els, d.cells.length = size := fun d hd => (hs d hd).1
  have hk : k < els.length := by unfold loadEl at hob; split at hob <;> exact hob.1
  have hkd : els[k]? = some els[k] := List.getElem?_eq_getElem hk
  have hel : elAt els k = els[k] := by simp [elAt, hkd]
  have hoff : off + i.size ≤ size := by
    unfold loadEl at hob; split at hob
    · rename_i hh; omega
    · exact hob.2
  have hmem : els[k] ∈ els := List.getElem_mem hk
  have hcl : els[k].cells.length = size := hs' _ hmem
  have hbound : ∀ j, j < size → k * size + j < els.length * size := fun j hj => by
    have : (k + 1) * size ≤ els.length * size := Nat.mul_le_mul_right _ hk
    rw [Nat.add_mul] at this; omega
  have hrange : w.rangeAt b (o + k * size + off) ((List.range i.size).map fun j => val (k * size + (off + j))) := by
    intro j v hv
    simp only [List.getElem?_map] at hv
    by_cases hj : j < i.size
    · simp [hj] at hv
      have := hc (k * size + (off + j)) (hbound _ (by omega))
      rw [show o + k * size + off + j = o + (k * size + (off + j)) by omega, this, hv]
    · simp [hj] at hv
  have hload := run_load_cells hE h w b (o + k * size + off) _ (by simp) hrange
  have hread : ∀ j, j < i.size → ∀ x, els[k].cells[off + j]? = some x → Rd I (val (k * size + (off + j))) x := fun j hj x hx =>
    hr _ x ((flat_get els hs' k (off + j) els[k] hkd (by omega)).trans hx)
  have hones : ∀ x ∈ els[k].cells, x.one = true := (hs _ hmem).2
  refine ⟨by unfold loadEl; split <;> rfl, _, hload, ?_⟩
  -- what the value reads as
  have hcells : ∀ ds : List D, ds = (els[k].cells.drop off).take i.size → RdT I m L (if i.desc.agg then .agg ((List.range i.size).map fun j => val (k * size + (off + j))).toArray else ((List.range i.size).map fun j => val (k * size + (off + j))).headD undef) (.d (mkD i.desc.agg ds)) := by
    intro ds hds
    have hlen : ds.length = i.size := by rw [hds, List.length_take, List.length_drop, hcl]; omega
    have hget : ∀ (j : Nat) x, ds[j]? = some x → j < i.size ∧ els[k].cells[off + j]? = some x := by
      intro j x hx
      have hj : j < i.size := by rw [← hlen]; exact (List.getElem?_eq_some_iff.1 hx).1
      rw [hds, List.getElem?_take, if_pos hj, List.getElem?_drop] at hx
      exact ⟨hj, hx⟩
    cases ha : i.desc.agg with
    | true =>
      simp only [if_true, mkD]
      refine .d _ _ (.agg _ _ (by simp [hlen]) (fun d hd => ?_) (fun j v d hv hd => ?_))
      · rw [hds] at hd
        exact hones d (List.mem_of_mem_drop (List.mem_of_mem_take hd))
      · obtain ⟨hj, hx⟩ := hget j d hd
        have : v = val (k * size + (off + j)) := by
          simp [hj] at hv
          exact hv.symm
        rw [this]; exact hread j hj d hx
    | false =>
      have h1 := ti_size_one hE h ha
      rw [h1] at hlen ⊢
      match ds, hlen, hget with
      | [x], _, hget =>
        obtain ⟨_, hx⟩ := hget 0 x rfl
        simp only [mkD, List.headD, Bool.false_eq_true, if_false]
        exact .d _ _ (by simpa using hread 0 (by omega) x hx)
  by_cases hh : size = i.size ∧ off = 0
  · simp only [loadEl, if_pos hh] at hob ⊢
    have hsz : size = i.size := hh.1
    have ho : off = 0 := hh.2
    have hagg : isAggD (elAt els k) = i.desc.agg := hob.2
    have := hcells els[k].cells (by subst ho; rw [List.drop_zero, List.take_of_length_le (by omega)])
    rw [hel] at hagg ⊢
    have hm : mkD i.desc.agg els[k].cells = els[k] := by
      cases he : els[k] <;> simp_all [isAggD, mkD, D.cells]
    rw [hm] at this
    exact this
  · simp only [loadEl, if_neg hh]
    rw [hel]
    exact hcells _ rfl

section
variable {P : Program} {V : Env} {w0 w : World} {I0 I : Imm} {m : Nat → Value} {l L : List AO}

theorem row_cells {w : World} {B : Nat} {e : TypeId} {size n b c : Nat} {xs : List Value} (h : w.ownsRow B e size (.slice (some ⟨b, 0, none⟩) n c) n xs) : ∀ (j : Nat) x, xs[j]? = some x → w.cell? ⟨b, j, none⟩ = some x := by
  intro j x hx
  rcases h.2 with ⟨hv, _⟩ | ⟨g, cap, cur, hv, hb, hg, h1, h2, h3, h4⟩
  · cases hv
  · injection hv with hv _ _; injection hv with hv; injection hv with hv; subst hv
    rw [← h4, List.getElem?_take] at hx
    split at hx
    · simpa [World.cell?, hg] using hx
    · cases hx

theorem row_cells' {B : Nat} {v : Value} {e : TypeId} {size b n c : Nat} {els : List D} {xs : List Value} (h1 : w.ownsRow B e size v els.length xs) (hv : v = .slice (some ⟨b, 0, none⟩) n c) : els.length = n ∧ ∀ (j : Nat) x, xs[j]? = some x → w.cell? ⟨b, j, none⟩ = some x := by
  have hn : els.length = n := by
    rcases h1.2 with ⟨q, _⟩ | ⟨g, cap, cur, q, _⟩ <;> rw [q] at hv
    · cases hv
    · injection hv
  subst hn; subst hv
  exact ⟨rfl, row_cells h1⟩

theorem loadAs_ok (hE : TOk P V.E) (hrel : WRel w0 I0 w I m L) (hc : Com l L) {ty : TypeId} {v : Value} {x : T} (hx : RdT I m L v x) (hob : (loadAs V.E ty l x).ob) :
    (loadAs V.E ty l x).eff = .none ∧ ∃ u, (Instr.loadAt ty v).run P w = .ok u w ∧ RdT I m L u (loadAs V.E ty l x).t := by
  cases hx with
  | ptr id b off hv hm =>
    simp only [loadAs] at hob ⊢
    cases hi : V.E ty with
    | none => simp [hi, R.bad] at hob
    | some i =>
      cases ho : l[id]? with
      | none => simp [hi, ho, R.bad] at hob
      | some o =>
        cases o with
        | var t' cs =>
          simp only [hi, ho] at hob ⊢
          split at hob
          · rename_i hle
            rw [if_pos hle]
            obtain ⟨b', vs, hv', h1, h2, h3, h4, h5⟩ := hrel.obj id _ (hc.get ho)
            rw [hm] at hv'; injection hv' with hv'; injection hv' with hv'; injection hv' with hv'; subst hv'
            have hlen : ((vs.toList.drop off).take i.size).length = i.size := by simp; omega
            refine ⟨rfl, _, run_load_cells hE hi w b off _ hlen (rangeAt_var h2), ?_⟩
            refine mkT_ok (by simp; omega) hlen (ti_size_one hE hi) (fun j v t hv ht => ?_)
            rw [List.getElem?_take] at hv ht
            split at hv
            · rename_i hj
              rw [if_pos hj] at ht
              rw [List.getElem?_drop] at hv ht
              exact h4 (off + j) v t (by simpa using hv) ht
            · cases hv
          · simp [R.bad] at hob
        | _ => simp [hi, ho, R.bad] at hob
  | eptr b o size els k off val h1 h2 h3 h4 =>
    simp only [loadAs] at hob ⊢
    cases hi : V.E ty with
    | none => simp [hi, R.bad] at hob
    | some i =>
      simp only [hi] at hob ⊢
      exact loadEl_ok hE hi h2 (fun j hj => hrel.sat.cell _ _ _ (h3 j hj)) h4 hob
  | rptr a id k off h1 h2 =>
    simp only [loadAs] at hob ⊢
    cases hi : V.E ty with
    | none => simp [hi, R.bad] at hob
    | some i =>
      cases ho : l[id]? with
      | none => simp [hi, ho, R.bad] at hob
      | some o =>
        cases o with
        | row e size els =>
          simp only [hi, ho] at hob ⊢
          obtain ⟨b, n, c, q1, rfl⟩ := h2 e size els (.inl (hc.get ho))
          obtain ⟨xs, k1, k2, k3, k4⟩ := hrel.obj id _ (hc.get ho)
          obtain ⟨hn, hcell⟩ := row_cells' k1 q1
          have hxl : xs.length = els.length * size := k1.1
          have := loadEl_ok (P := P) (I := I) (m := m) (L := L) (w := w) (b := b) (o := 0) (k := k) (off := off) (val := fun j => (xs[j]?).getD undef) hE hi k2
            (fun j hj => by rw [Nat.zero_add]; exact hcell j _ (by simp [hxl, hj])) (fun j x hx => by
              have hjl : j < els.length * size := by rw [← flat_len els (fun d hd => (k2 d hd).1)]; exact (List.getElem?_eq_some_iff.1 hx).1
              have hxs : xs[j]? = some (xs[j]'(by omega)) := List.getElem?_eq_getElem (by omega)
              rw [hxs]; exact k3 j _ x hxs hx) hob
          simpa using this
        | frow e size els =>
          simp only [hi, ho] at hob ⊢
          obtain ⟨b, n, c, q1, rfl⟩ := h2 e size els (.inr (hc.get ho))
          obtain ⟨xs, k1, k2, k3, k4⟩ := hrel.obj id _ (hc.get ho)
          obtain ⟨hn, hcell⟩ := row_cells' k1 q1
          have hxl : xs.length = els.length * size := k1.1
          have := loadEl_ok (P := P) (I := I) (m := m) (L := L) (w := w) (b := b) (o := 0) (k := k) (off := off) (val := fun j => (xs[j]?).getD undef) hE hi k2
            (fun j hj => by rw [Nat.zero_add]; exact hcell j _ (by simp [hxl, hj])) (fun j x hx => by
              have hjl : j < els.length * size := by rw [← flat_len els (fun d hd => (k2 d hd).1)]; exact (List.getElem?_eq_some_iff.1 hx).1
              have hxs : xs[j]? = some (xs[j]'(by omega)) := List.getElem?_eq_getElem (by omega)
              rw [hxs]; exact k3 j _ x hxs hx) hob
          simpa using this
        | _ => simp [hi, ho, R.bad] at hob
  | _ => simp [loadAs, R.bad] at hob

end
end Go.Eva

/-
  Eva, part F: stores, new objects, appends, calls.
-/
namespace Go.Eva
open Go Go.RowKit
variable [Drw]

section
variable {P : Program} {V : Env} {w0 w : World} {I0 I : Imm} {m : Nat → Value} {l L : List AO}


theorem isVar_set {l : List AO} {id : Nat} {o o' : AO} (h : l[id]? = some o) (hv : o.isVar = o'.isVar) (k : Nat) : isVar (l.set id o') k = isVar l k := by
  unfold isVar
  by_cases hk : k = id
  · subst hk
    rw [List.getElem?_set, if_pos rfl, if_pos (List.getElem?_eq_some_iff.1 h).1, h]; simp [hv]
  · rw [List.getElem?_set, if_neg (Ne.symm hk)]
theorem isRow_set {l : List AO} {id : Nat} {o o' : AO} (h : l[id]? = some o) (hv : o.isRow = o'.isRow) (k : Nat) : isRow (l.set id o') k = isRow l k := by
  unfold isRow
  by_cases hk : k = id
  · subst hk
    rw [List.getElem?_set, if_pos rfl, if_pos (List.getElem?_eq_some_iff.1 h).1, h]; simp [hv]
  · rw [List.getElem?_set, if_neg (Ne.symm hk)]

theorem Le.setVar {id : Nat} {ty ty' : TypeId} {cs cs' : List T} (h : l[id]? = some (.var ty cs)) : Le I m l I m (l.set id (.var ty' cs')) := by
  refine ⟨.refl I, by simp, fun k _ hk => ⟨(isVar_set (o' := .var ty' cs') h rfl k).trans hk, rfl⟩, fun k _ hk => ⟨(isRow_set (o' := .var ty' cs') h rfl k).symm.trans hk, rfl⟩, fun k e size els hk hh => ⟨els, ?_⟩⟩
  by_cases hki : k = id
  · subst hki; rw [List.getElem?_set, if_pos rfl, if_pos (List.getElem?_eq_some_iff.1 h).1] at hh; simp at hh
  · rw [List.getElem?_set, if_neg (Ne.symm hki)] at hh; exact hh

/-- A store into a variable of the call's own. -/
theorem store_ok (hE : TOk P V.E) (hrel : WRel w0 I0 w I m l) {id off b : Nat} {ty t' : TypeId} {cs : List T} {x : T} {v : Value} (ho : l[id]? = some (.var t' cs)) (hm : m id = .pointer (some ⟨b, 0, none⟩))
    (hx : RdT I m l v x) (h1 : (cellsT x).all T.oneT = true) (hn : (cellsT x).length = sizeE V.E ty) (hpos : 0 < (cellsT x).length) (hle : off + (cellsT x).length ≤ cs.length) :
    ∃ w', (Instr.storeAt ty (.pointer (some ⟨b, off, none⟩)) v).run P w = .ok () w' ∧ WRel w0 I0 w' I m (l.set id (.var t' (setAt cs off (cellsT x)))) := by
  obtain ⟨b', vs, hv', k1, k2, k3, k4, k5⟩ := hrel.obj id _ ho
  rw [hm] at hv'; injection hv' with hv'; injection hv' with hv'; injection hv' with hv'; subst hv'
  -- the value's cells
  have hcells : v.cells.toList.length = (cellsT x).length ∧ (∀ u ∈ v.cells.toList, u.oneCell' = true) ∧ ∀ (i : Nat) u t, v.cells.toList[i]? = some u → (cellsT x)[i]? = some t → RdT I m l u t := by
    have one : ∀ (u : Value), u.oneCell' = true → u.cells.toList = [u] := fun u hu => by cases u <;> simp_all [Value.oneCell', Value.cells]
    have single : ∀ (t : T), cellsT t = [t] → RdT I m l v t → v.oneCell' = true → v.cells.toList.length = (cellsT t).length ∧ (∀ u ∈ v.cells.toList, u.oneCell' = true) ∧ ∀ (i : Nat) u s, v.cells.toList[i]? = some u → (cellsT t)[i]? = some s → RdT I m l u s := by
      intro t ht hr hv
      rw [one v hv, ht]
      refine ⟨rfl, by simpa using hv, fun i u s hu hs => ?_⟩
      rcases i with _ | i
      · simp at hu hs; subst hu; subst hs; exact hr
      · simp at hu
    cases hx with
    | undef => simp [cellsT, T.oneT] at h1
    | d _ d hd =>
      by_cases ht : ∃ ds, d = .tup ds
      · obtain ⟨ds, rfl⟩ := ht; simp [cellsT, D.cells, T.oneT, D.one] at h1
      · obtain ⟨q1, q2, q3⟩ := hd.cells (fun ds e => ht ⟨ds, e⟩)
        refine ⟨by simp [cellsT, q1], fun u hu => ?_, fun i u t hu ht' => ?_⟩
        · obtain ⟨i, hi, rfl⟩ := List.mem_iff_getElem.1 hu
          have hi' : i < d.cells.length := by simp at hi; omega
          exact (q3 i _ d.cells[i] (by rw [← Array.getElem?_toList]; exact List.getElem?_eq_getElem hi) (List.getElem?_eq_getElem hi')).one (q2 _ (List.getElem_mem hi'))
        · simp only [cellsT, List.getElem?_map] at ht'
          cases hd' : d.cells[i]? with
          | none => simp [hd'] at ht'
          | some y =>
            simp [hd'] at ht'
            subst ht'
            exact .d _ _ (q3 i u y (by simpa using hu) hd')
    | nils s => exact single _ rfl (.nils s) rfl
    | ptr id b off q1 q2 => exact single _ rfl (.ptr id b off q1 q2) rfl
    | eptr b o size els k off val q1 q2 q3 q4 => exact single _ rfl (.eptr b o size els k off val q1 q2 q3 q4) rfl
    | tup => simp [cellsT, T.oneT] at h1
    | cond => simp [cellsT, T.oneT] at h1
    | row A n c id q1 q2 => exact single _ rfl (.row A n c id q1 q2) rfl
    | rptr a id k off q1 q2 => exact single _ rfl (.rptr a id k off q1 q2) rfl
    | map r id q1 q2 => exact single _ rfl (.map r id q1 q2) rfl
  obtain ⟨c1, c2, c3⟩ := hcells
  have hsize : (sizeOf ty).run P w = .ok v.cells.size w := by
    cases hi : V.E ty with
    | none => simp only [sizeE, hi, Option.map_none, Option.getD_none] at hn; omega
    | some i =>
      rw [run_sizeOf_ti hE hi w]
      simp only [sizeE, hi, Option.map_some, Option.getD_some] at hn
      rw [Array.length_toList] at c1; congr 1; omega
  have hst := run_storeCells_at P b off t' v.cells.toList 0 vs w k2 (by rw [k3]; omega) c2
  refine ⟨_, by simp only [Instr.storeAt, Instr.sureAddr, Sem.run_bind, Sem.run_pure, Result.andThen_ok, storeVar, hsize, ne_eq, not_true_eq_false, if_false, hst]; rfl, ?_⟩
  simp only [Nat.add_zero]
  generalize hnew : (vs.toList.take off ++ v.cells.toList ++ vs.toList.drop (off + v.cells.toList.length)).toArray = new
  have hlt : b < w.heap.size := (Array.getElem?_eq_some_iff.1 k2).1
  have hheap : (w.setRow b new).heap[b]? = some (.cells new t' (0, 0)) := setRow_heap w b vs new t' (0, 0) k2
  have hle' : Le I m l I m (l.set id (.var t' (setAt cs off (cellsT x)))) := Le.setVar ho
  have hidl : id < l.length := (List.getElem?_eq_some_iff.1 ho).1
  refine ⟨hrel.below.trans ⟨rfl, rfl, rfl, by simp, fun k hk => setRow_other w b _ new (by omega), fun _ => Nat.le_refl _⟩, ⟨fun b' o u hc => ?_, fun b' es hc => ?_⟩, hrel.ext, fun j o hj => ?_, fun i j b' hij hi hj hbi hbj => ?_⟩
  · have hne : b' ≠ b := by rintro rfl; rw [k5.1] at hc; cases hc
    have := hrel.sat.cell b' o u hc
    exact (World.cell?_of_block (w := w) (a := ⟨b', o, none⟩) (setRow_other w b _ new hne)).trans this
  · have hne : b' ≠ b := by rintro rfl; rw [k5.2] at hc; cases hc
    have hh := hrel.sat.mp b' es hc
    exact MapAt.to (setRow_other w b _ new hne) hh
  · by_cases hji : j = id
    · subst hji
      rw [List.getElem?_set, if_pos rfl, if_pos hidl] at hj
      injection hj with hj; subst hj
      refine ⟨b, new, hm, k1, hheap, ?_, fun i u t hu ht => ?_, k5⟩
      · subst hnew; simp [setAt, k3, List.length_append, List.length_take, List.length_drop] at c1 ⊢; omega
      · subst hnew
        have key : ∀ (i : Nat), (vs.toList.take off ++ v.cells.toList ++ vs.toList.drop (off + v.cells.toList.length))[i]? = some u → (setAt cs off (cellsT x))[i]? = some t → RdT I m l u t ∧ u.oneCell' = true := by
          intro i hu ht
          have l1 : (vs.toList.take off).length = off := by simp; omega
          have l2 : (cs.take off).length = off := by simp; omega
          rw [List.append_assoc, List.getElem?_append] at hu
          rw [setAt, List.append_assoc, List.getElem?_append] at ht
          rw [l1] at hu; rw [l2] at ht
          by_cases hi : i < off
          · rw [if_pos hi] at hu ht
            rw [List.getElem?_take, if_pos hi] at hu ht
            exact k4 i u t (by simpa using hu) ht
          · rw [if_neg hi] at hu ht
            rw [List.getElem?_append] at hu ht
            rw [c1] at hu
            by_cases hi2 : i - off < (cellsT x).length
            · rw [if_pos hi2] at hu ht
              refine ⟨c3 _ u t hu ht, c2 u ?_⟩
              exact List.mem_of_getElem? hu
            · rw [if_neg hi2] at hu ht
              rw [List.getElem?_drop] at hu ht
              exact k4 _ u t (by simpa using hu) ht
        have := key i (by simpa using hu) ht
        exact ⟨this.1.mono hle', this.2⟩
    · rw [List.getElem?_set, if_neg (Ne.symm hji)] at hj
      by_cases hd : o = .dead
      · subst hd; trivial
      · refine (hrel.obj j o hj).keep hle' (fun b' hb' => setRow_other w b _ new ?_) (fun _ _ => ⟨rfl, rfl⟩)
        rintro rfl
        exact hrel.sep j id b' hji (alive_iff.2 ⟨o, hj, hd⟩) (alive_iff.2 ⟨_, ho, by simp⟩) hb' (by rw [hm]; rfl)
  · refine hrel.sep i j b' hij ?_ ?_ hbi hbj
    · unfold alive at hi ⊢; rwa [isVar_set (o' := .var t' (setAt cs off (cellsT x))) ho rfl, isRow_set (o' := .var t' (setAt cs off (cellsT x))) ho rfl] at hi
    · unfold alive at hj ⊢; rwa [isVar_set (o' := .var t' (setAt cs off (cellsT x))) ho rfl, isRow_set (o' := .var t' (setAt cs off (cellsT x))) ho rfl] at hj

end
end Go.Eva

/-
  Eva, part G: rows and maps of the call's own are frozen; appends; calls.
-/
namespace Go.Eva
open Go Go.RowKit
variable [Drw]

section
variable {P : Program} {V : Env} {w0 w : World} {I0 I : Imm} {m : Nat → Value} {l L : List AO}

/-- An object's state is turned, its block's cells become known. -/
theorem WRel.turn (h : WRel w0 I0 w I m l) {id : Nat} {o o' : AO} {J : Imm} (ho : l[id]? = some o) (hv : o.isVar = o'.isVar) (hr : o.isRow = o'.isRow) (hoo : o'.isRow = true)
    (hrow : ∀ e size els, (o' = .row e size els ∨ o' = .frow e size els) → ∃ els', (o = .row e size els' ∨ o = .frow e size els'))
    (hle : I.le J) (hJ : ∀ b, own (m id) ≠ some b → J.cell b = I.cell b ∧ J.mp b = I.mp b) (hsat : SatI w J)
    (hok : ObjOk w0.heap.size w J m (l.set id o') (m id) o') : WRel w0 I0 w J m (l.set id o') ∧ Le I m l J m (l.set id o') := by
  have hidl : id < l.length := (List.getElem?_eq_some_iff.1 ho).1
  have hLe : Le I m l J m (l.set id o') := by
    refine ⟨hle, by simp, fun k _ hk => ⟨(isVar_set ho hv k).trans hk, rfl⟩, fun k _ hk => ⟨(isRow_set ho hr k).symm.trans hk, rfl⟩, fun k e size els hk hh => ?_⟩
    by_cases hki : k = id
    · subst hki; rw [List.getElem?_set, if_pos rfl, if_pos hidl] at hh
      have hh' : o' = .row e size els ∨ o' = .frow e size els := by rcases hh with hh | hh <;> (injection hh with hh; simp [hh])
      obtain ⟨els', hc⟩ := hrow e size els hh'
      exact ⟨els', by rcases hc with hc | hc <;> rw [ho, hc] <;> simp⟩
    · rw [List.getElem?_set, if_neg (Ne.symm hki)] at hh; exact ⟨els, hh⟩
  have hdead : o ≠ .dead := by rintro rfl; rw [← hr] at hoo; simp [AO.isRow] at hoo
  refine ⟨⟨h.below, hsat, ⟨h.ext.le.trans hle, fun b hb => ?_, fun b hb => ?_⟩, fun j o1 hj => ?_, fun i j b hij hi hj => ?_⟩, hLe⟩
  · by_cases hb' : own (m id) = some b
    · have := ((h.obj id o ho).lt hdead hb').2; omega
    · exact (hJ b hb').1.trans (h.ext.cell b hb)
  · by_cases hb' : own (m id) = some b
    · have := ((h.obj id o ho).lt hdead hb').2; omega
    · exact (hJ b hb').2.trans (h.ext.mp b hb)
  · by_cases hji : j = id
    · subst hji; rw [List.getElem?_set, if_pos rfl, if_pos hidl] at hj; injection hj with hj; subst hj; exact hok
    · rw [List.getElem?_set, if_neg (Ne.symm hji)] at hj
      by_cases hd : o1 = .dead
      · subst hd; trivial
      · exact (h.obj j o1 hj).keep hLe (fun _ _ => rfl) (fun b hb => hJ b (fun he => h.sep j id b hji (alive_iff.2 ⟨o1, hj, hd⟩) (alive_iff.2 ⟨o, ho, hdead⟩) hb he))
  · refine h.sep i j b hij ?_ ?_
    · unfold alive at hi ⊢; rwa [isVar_set (o' := o') ho hv, isRow_set (o' := o') ho hr] at hi
    · unfold alive at hj ⊢; rwa [isVar_set (o' := o') ho hv, isRow_set (o' := o') ho hr] at hj

/-- 'I' with the cells of block b. -/
def Imm.withCells (I : Imm) (b : Nat) (xs : List Value) : Imm := ⟨fun b' o => if b' = b then (match xs[o]? with | some x => some x | none => I.cell b o) else I.cell b' o, I.mp⟩
def Imm.withMap (I : Imm) (b : Nat) (es : ME) : Imm := ⟨I.cell, fun b' => if b' = b then some es else I.mp b'⟩

theorem rd_row {J : Imm} {v : Value} {B : Nat} {e : TypeId} {size : Nat} {els : List D} {xs : List Value} (h1 : w.ownsRow B e size v els.length xs) (h2 : ∀ d ∈ els, d.cells.length = size ∧ ∀ x ∈ d.cells, x.one = true)
    (h3 : ∀ (j : Nat) x y, xs[j]? = some x → (flat els)[j]? = some y → Rd J x y) (hJ : ∀ b, own v = some b → ∀ (j : Nat) x, xs[j]? = some x → J.cell b j = some x) : Rd J v (.slice size els) := by
  have hxl : xs.length = els.length * size := h1.1
  rcases h1.2 with ⟨rfl, hn⟩ | ⟨g, cap, cur, rfl, hb, hg, k1, k2, k3, k4⟩
  · have : els = [] := List.eq_nil_of_length_eq_zero hn
    subst this
    exact .slice0 _ _ _ (Nat.zero_le _)
  · refine .slice g 0 els.length cap size els (fun j => (xs[j]?).getD undef) rfl k1 k2 h2 (fun j hj => ?_) (fun j x hx => ?_)
    · have hxs : xs[j]? = some (xs[j]'(by omega)) := List.getElem?_eq_getElem (by omega)
      rw [Nat.zero_add, hxs]; exact hJ g rfl j _ hxs
    · have hjl : j < els.length * size := by rw [← flat_len els (fun d hd => (h2 d hd).1)]; exact (List.getElem?_eq_some_iff.1 hx).1
      have hxs : xs[j]? = some (xs[j]'(by omega)) := List.getElem?_eq_getElem (by omega)
      rw [hxs]; exact h3 j _ x hxs hx

theorem toD_ok (hrel : WRel w0 I0 w I m l) {v : Value} {t : T} {x : D} {l' : List AO} (ht : RdT I m l v t) (hd : toD l t = some (x, l')) : ∃ J, Le I m l J m l' ∧ WRel w0 I0 w J m l' ∧ Rd J v x ∧ l'.length = l.length := by
  cases ht with
  | d v y hy => simp [toD] at hd; obtain ⟨rfl, rfl⟩ := hd; exact ⟨I, .refl .., hrel, hy, rfl⟩
  | nils s => simp [toD] at hd; obtain ⟨rfl, rfl⟩ := hd; exact ⟨I, .refl .., hrel, .slice0 _ _ _ (Nat.zero_le _), rfl⟩
  | row A n c id h1 h2 =>
    simp only [toD] at hd
    cases ho : l[id]? with
    | none => simp [ho] at hd
    | some o =>
      cases o with
      | frow e s els =>
        simp only [ho, Option.some.injEq, Prod.mk.injEq] at hd
        obtain ⟨rfl, rfl⟩ := hd
        have hm := h2 (by simp [isRow, ho, AO.isRow])
        obtain ⟨xs, k1, k2, k3, k4⟩ := hrel.obj id _ ho
        rw [hm] at k1 k4
        exact ⟨I, .refl .., hrel, rd_row k1 k2 k3 (fun b hb => (k4 b hb).2.1), rfl⟩
      | row e s els =>
        simp only [ho, Option.some.injEq, Prod.mk.injEq] at hd
        obtain ⟨rfl, rfl⟩ := hd
        have hm := h2 (by simp [isRow, ho, AO.isRow])
        obtain ⟨xs, k1, k2, k3, k4⟩ := hrel.obj id _ ho
        rcases hob : own (m id) with _ | b
        · -- nil: nothing to freeze
          have hnb : ∀ b, own (m id) ≠ some b := fun b h => by rw [hob] at h; cases h
          obtain ⟨r1, r2⟩ := hrel.turn (o' := .frow e s els) (J := I) ho rfl rfl rfl (fun e' s' els' h => by rcases h with h | h <;> cases h; exact ⟨els, .inl rfl⟩) (.refl I) (fun _ _ => ⟨rfl, rfl⟩) hrel.sat ⟨xs, k1, k2, k3, fun b hb => absurd hb (hnb b)⟩
          rw [hm] at k1 hnb
          exact ⟨I, r2, r1, rd_row k1 k2 k3 (fun b hb => absurd hb (hnb b)), by simp⟩
        · obtain ⟨n1, n2⟩ := k4 b hob
          let J := I.withCells b xs
          have hJc : ∀ (j : Nat) x, xs[j]? = some x → J.cell b j = some x := fun j x hx => by simp [J, Imm.withCells, hx]
          have hle : I.le J := ⟨fun b' o u hc => by
            by_cases hb' : b' = b
            · subst hb'; rw [n1 o] at hc; cases hc
            · simp [J, Imm.withCells, hb', hc], fun _ _ h => h⟩
          have hout : ∀ b', some b ≠ some b' → J.cell b' = I.cell b' ∧ J.mp b' = I.mp b' := fun b' hb' => ⟨by funext o; simp [J, Imm.withCells, show b' ≠ b from fun e => hb' (by rw [e])], rfl⟩
          have hcells : ∀ (j : Nat) x, xs[j]? = some x → w.cell? ⟨b, j, none⟩ = some x := by
            rw [hm] at k1 hob
            cases A with
            | none => simp [own] at hob
            | some a =>
              obtain ⟨q, _⟩ : ∃ cap, (Value.slice (some a) n c) = .slice (some ⟨b, 0, none⟩) els.length cap ∧ True := by
                rcases k1.2 with ⟨q, _⟩ | ⟨g, cap, cur, q, _⟩
                · cases q
                · rw [q] at hob; simp [own] at hob; subst hob; exact ⟨cap, q, trivial⟩
              rename_i hq
              rw [hq.1] at k1
              exact row_cells k1
          have hsat : SatI w J := ⟨fun b' o u hc => by
            by_cases hb' : b' = b
            · subst hb'
              simp only [J, Imm.withCells, if_true] at hc
              cases hx : xs[o]? with
              | none => simp only [hx] at hc; rw [n1 o] at hc; cases hc
              | some x => simp only [hx] at hc; injection hc with hc; subst hc; exact hcells o x hx
            · simp only [J, Imm.withCells, if_neg hb'] at hc; exact hrel.sat.cell b' o u hc, hrel.sat.mp⟩
          obtain ⟨r1, r2⟩ := hrel.turn (o' := .frow e s els) (J := J) ho rfl rfl rfl (fun e' s' els' h => by rcases h with h | h <;> cases h; exact ⟨els, .inl rfl⟩) hle (fun b' hb' => hout b' (fun e => hb' (hob.trans e))) hsat
            ⟨xs, k1, k2, fun j x y hx hy => (k3 j x y hx hy).mono hle, fun b' hb' => by
              rw [hob] at hb'; injection hb' with hb'; subst hb'
              exact ⟨n2, hJc, fun j hj => by simp only [J, Imm.withCells, if_true, List.getElem?_eq_none hj]; exact n1 j⟩⟩
          rw [hm] at k1 hob
          exact ⟨J, r2, r1, rd_row k1 k2 (fun j x y hx hy => (k3 j x y hx hy).mono hle) (fun b' hb' => by rw [hob] at hb'; injection hb' with hb'; subst hb'; exact hJc), by simp⟩
      | _ => simp [ho] at hd
  | map r id h1 h2 =>
    simp only [toD] at hd
    cases ho : l[id]? with
    | none => simp [ho] at hd
    | some o =>
      cases o with
      | fmap ks vs =>
        simp only [ho, Option.some.injEq, Prod.mk.injEq] at hd
        obtain ⟨rfl, rfl⟩ := hd
        have hm := h2 (by simp [isRow, ho, AO.isRow])
        obtain ⟨b, es, q1, q2, q3, q4, q5, q6, q7, q8, q9⟩ := hrel.obj id _ ho
        rw [hm] at q1; injection q1 with q1; subst q1
        exact ⟨I, .refl .., hrel, .map b es ks vs q9 q4 q5 q6 q7, rfl⟩
      | map ks vs =>
        simp only [ho, Option.some.injEq, Prod.mk.injEq] at hd
        obtain ⟨rfl, rfl⟩ := hd
        have hm := h2 (by simp [isRow, ho, AO.isRow])
        obtain ⟨b, es, q1, q2, q3, q4, q5, q6, q7, q8⟩ := hrel.obj id _ ho
        have hob : own (m id) = some b := by rw [q1]; rfl
        let J := I.withMap b es
        have hle : I.le J := ⟨fun _ _ _ h => h, fun b' es' hc => by
          by_cases hb' : b' = b
          · subst hb'; rw [q8.2] at hc; cases hc
          · simp [J, Imm.withMap, hb', hc]⟩
        have hsat : SatI w J := ⟨hrel.sat.cell, fun b' es' hc => by
          by_cases hb' : b' = b
          · subst hb'; simp only [J, Imm.withMap, if_true] at hc; injection hc with hc; subst hc; exact q3
          · simp only [J, Imm.withMap, if_neg hb'] at hc; exact hrel.sat.mp b' es' hc⟩
        obtain ⟨r1, r2⟩ := hrel.turn (o' := .fmap ks vs) (J := J) ho rfl rfl rfl (fun e' s' els' h => by rcases h with h | h <;> cases h) hle
          (fun b' hb' => ⟨rfl, by simp [J, Imm.withMap, show b' ≠ b from fun e => hb' (by rw [hob, e])]⟩) hsat
          ⟨b, es, q1, q2, q3, q4, q5, fun i e d he hd => (q6 i e d he hd).mono hle, fun i e d he hd => (q7 i e d he hd).mono hle, q8.1, by simp [J, Imm.withMap]⟩
        rw [hm] at q1; injection q1 with q1; subst q1
        exact ⟨J, r2, r1, .map b es ks vs (by simp [J, Imm.withMap]) q4 q5 (fun i e d he hd => (q6 i e d he hd).mono hle) (fun i e d he hd => (q7 i e d he hd).mono hle), by simp⟩
      | _ => simp [ho] at hd
  | _ => simp [toD] at hd

theorem argsD_ok : ∀ (ts : List T) (l : List AO) (I : Imm) (vs : List Value) (ds : List D) (l' : List AO), WRel w0 I0 w I m l → vs.length = ts.length → (∀ (i : Nat) v t, vs[i]? = some v → ts[i]? = some t → RdT I m l v t) → argsD l ts = some (ds, l') →
    ∃ J, Le I m l J m l' ∧ WRel w0 I0 w J m l' ∧ vs.length = ds.length ∧ (∀ (i : Nat) v d, vs[i]? = some v → ds[i]? = some d → Rd J v d) ∧ l'.length = l.length
  | [], l, I, vs, ds, l', hrel, hl, hr, hd => by
    simp [argsD] at hd; obtain ⟨rfl, rfl⟩ := hd
    have : vs = [] := List.eq_nil_of_length_eq_zero (by simpa using hl)
    subst this
    exact ⟨I, .refl .., hrel, rfl, by simp, rfl⟩
  | t :: ts, l, I, vs, ds, l', hrel, hl, hr, hd => by
    match vs, hl with
    | v :: vs, hl =>
      simp only [argsD] at hd
      cases h1 : toD l t with
      | none => simp [h1] at hd
      | some p =>
        obtain ⟨x, l1⟩ := p
        simp only [h1] at hd
        cases h2 : argsD l1 ts with
        | none => simp [h2] at hd
        | some q =>
          obtain ⟨xs, l2⟩ := q
          simp only [h2, Option.some.injEq, Prod.mk.injEq] at hd
          obtain ⟨rfl, rfl⟩ := hd
          obtain ⟨J1, le1, r1, x1, n1⟩ := toD_ok hrel (hr 0 v t rfl rfl) h1
          obtain ⟨J2, le2, r2, q1, q2, n2⟩ := argsD_ok ts l1 J1 vs xs l2 r1 (by simpa using hl) (fun i v t hv ht => (hr (i + 1) v t (by simpa using hv) (by simpa using ht)).mono le1) h2
          refine ⟨J2, le1.trans le2, r2, by simp [q1], fun i u d hu hd' => ?_, by omega⟩
          rcases i with _ | i
          · simp at hu hd'; subst hu; subst hd'; exact x1.mono le2.imm
          · simp at hu hd'; exact q2 i u d hu hd'

theorem toD_quiet {l : List AO} {t : T} {x : D} {l' : List AO} (hq : quietT l t = true) (h : toD l t = some (x, l')) : l' = l := by
  cases t <;> simp [quietT, toD] at hq h
  · exact h.2.symm
  · exact h.2.symm
  · rename_i id
    cases ho : l[id]? with
    | none => simp [ho] at hq
    | some o => cases o <;> simp [ho] at hq h; exact h.2.symm
  · rename_i id
    cases ho : l[id]? with
    | none => simp [ho] at hq
    | some o => cases o <;> simp [ho] at hq h; exact h.2.symm
theorem argsD_quiet : ∀ (ts : List T) {l : List AO} {ds : List D} {l' : List AO}, ts.all (quietT l) = true → argsD l ts = some (ds, l') → l' = l
  | [], l, ds, l', _, h => by simp [argsD] at h; exact h.2.symm
  | t :: ts, l, ds, l', hq, h => by
    simp only [List.all_cons, Bool.and_eq_true] at hq
    simp only [argsD] at h
    cases h1 : toD l t with
    | none => simp [h1] at h
    | some p =>
      obtain ⟨x, l1⟩ := p
      simp only [h1] at h
      have := toD_quiet hq.1 h1
      subst this
      cases h2 : argsD l1 ts with
      | none => simp [h2] at h
      | some q =>
        obtain ⟨xs, l2⟩ := q
        simp only [h2, Option.some.injEq, Prod.mk.injEq] at h
        rw [← h.2]; exact argsD_quiet ts hq.2 h2
/-- Quiet conversions look only at what is there, and yield the same over a longer list. -/
theorem toD_com {l L : List AO} (hc : Com l L) {t : T} {x : D} {l' : List AO} (hq : quietT l t = true) (h : toD l t = some (x, l')) : toD L t = some (x, L) ∧ quietT L t = true := by
  cases t <;> simp [quietT, toD] at hq h ⊢
  · exact h.1
  · exact h.1
  · rename_i id
    cases ho : l[id]? with
    | none => simp [ho] at hq
    | some o => cases o <;> simp [ho] at hq h; simp [hc.get ho, h.1]
  · rename_i id
    cases ho : l[id]? with
    | none => simp [ho] at hq
    | some o => cases o <;> simp [ho] at hq h; simp [hc.get ho, h.1]
theorem argsD_com : ∀ (ts : List T) {l L : List AO} {ds : List D} {l' : List AO}, Com l L → ts.all (quietT l) = true → argsD l ts = some (ds, l') → argsD L ts = some (ds, L)
  | [], l, L, ds, l', _, _, h => by simp [argsD] at h ⊢; exact h.1
  | t :: ts, l, L, ds, l', hc, hq, h => by
    simp only [List.all_cons, Bool.and_eq_true] at hq
    simp only [argsD] at h ⊢
    cases h1 : toD l t with
    | none => simp [h1] at h
    | some p =>
      obtain ⟨x, l1⟩ := p
      simp only [h1] at h
      have := toD_quiet hq.1 h1
      subst this
      cases h2 : argsD l1 ts with
      | none => simp [h2] at h
      | some q =>
        obtain ⟨xs, l2⟩ := q
        simp only [h2, Option.some.injEq, Prod.mk.injEq] at h
        rw [(toD_com hc hq.1 h1).1]
        simp only [argsD_com ts hc hq.2 h2, h.1]

end
end Go.Eva

/-
  Eva, part H: every operation is sound.
-/
namespace Go.Eva
open Go Go.RowKit
variable [Drw]

/-- What is asked of an operation's step, by the evaluator's answer. -/
def RSound (P : Program) (w0 : World) (I0 : Imm) (o : Oper) (ρ : Operand → Value) (w : World) (I : Imm) (m : Nat → Value) (l L : List AO) (nid : Nat) (r : R) : Prop :=
  match r.eff with
  | .none => StepOk P ((execOp ρ o).run P w) fun v w' => ∃ J, Le I m L J m L ∧ WRel w0 I0 w' J m L ∧ RdT J m L v r.t
  | .new a => L[nid]? = some .dead → StepOk P ((execOp ρ o).run P w) fun v w' => ∃ m', Le I m L I m' (L.set nid a) ∧ WRel w0 I0 w' I m' (L.set nid a) ∧ RdT I m' (L.set nid a) v r.t
  | .upd l' => L = l → nid = l.length → StepOk P ((execOp ρ o).run P w) fun v w' => ∃ J m', Le I m l J m' l' ∧ WRel w0 I0 w' J m' l' ∧ RdT J m' l' v r.t

section
variable {P : Program} {V : Env} {w0 w : World} {I0 I : Imm} {m : Nat → Value} {l L : List AO} {nid : Nat} {o : Oper} {ρ : Operand → Value} {ρT : Operand → T}

/-- A value, the world as it is. -/
theorem RSound.val (hrel : WRel w0 I0 w I m L) {r : R} {u : Value} (he : r.eff = .none) (hx : (execOp ρ o).run P w = .ok (.value u) w) (hr : RdT I m L u r.t) : RSound P w0 I0 o ρ w I m l L nid r := by
  unfold RSound
  rw [he]
  simp only [hx, StepOk]
  exact ⟨I, .refl .., hrel, hr⟩

theorem rdD {v : Value} {x : D} (h : RdT I m L v (.d x)) : Rd I v x := by cases h; assumption

theorem rdCond {v : Value} {pc : List (Nat × Bool × Bool)} {t : T} (h : RdT I m L v (.cond pc t)) (hp : holds pc) : RdT I m L v t := by cases h; rename_i _ hh; exact hh hp

theorem pick_ok (hrel : WRel w0 I0 w I m L) {c a b : Operand} (ho : o.op = .pick c a b) (hr : ∀ x ∈ o.op.operands, RdT I m L (ρ x) (ρT x)) (hob : (pickT (ρT c) (ρT a) (ρT b)).ob) :
    RSound P w0 I0 o ρ w I m l L nid (pickT (ρT c) (ρT a) (ρT b)) := by
  have hc := hr c (by simp [ho, Op.operands])
  have ha := hr a (by simp [ho, Op.operands])
  have hb := hr b (by simp [ho, Op.operands])
  generalize ρT c = tc at *; generalize ρT a = ta at *; generalize ρT b = tb at *
  unfold pickT at hob ⊢
  split at hob
  · rename_i cc
    have := rdD hc
    generalize hρc : ρ c = vc at *
    cases this
    simp only at hob ⊢
    split at hob
    · rename_i x p y q hx hy
      have hx' : cc = true → Rd I (ρ a) (.bool x) := by
        intro hcc
        split at hx
        · simp at hx; obtain ⟨rfl, _⟩ := hx; exact rdD ha
        · rename_i pc x'
          simp only [Option.some.injEq, Prod.mk.injEq] at hx; obtain ⟨rfl, rfl⟩ := hx
          exact rdD (rdCond ha (hob.1 hcc))
        · cases hx
      have hy' : cc = false → Rd I (ρ b) (.bool y) := by
        intro hcc
        split at hy
        · simp at hy; obtain ⟨rfl, _⟩ := hy; exact rdD hb
        · rename_i pc x'
          simp only [Option.some.injEq, Prod.mk.injEq] at hy; obtain ⟨rfl, rfl⟩ := hy
          exact rdD (rdCond hb (hob.2 hcc))
        · cases hy
      refine RSound.val hrel rfl (u := if cc = true then ρ a else ρ b) ?_ ?_
      · unfold execOp; simp only [ho, hρc, asBool, Sem.run_bind, Sem.run_pure, Result.andThen_ok]
      · cases cc with
        | true => simpa using RdT.d _ _ (hx' rfl)
        | false => simpa using RdT.d _ _ (hy' rfl)
    · rename_i x p hx hy
      obtain ⟨hcc, hob⟩ := hob
      subst hcc
      have hx' : Rd I (ρ a) (.bool x) := by
        split at hx
        · simp at hx; obtain ⟨rfl, _⟩ := hx; exact rdD ha
        · rename_i pc x'
          simp only [Option.some.injEq, Prod.mk.injEq] at hx; obtain ⟨rfl, rfl⟩ := hx
          exact rdD (rdCond ha (hob trivial))
        · cases hx
      refine RSound.val hrel rfl (u := ρ a) ?_ (.d _ _ hx')
      unfold execOp; simp only [ho, hρc, asBool, Sem.run_bind, Sem.run_pure, Result.andThen_ok, if_true]
    · rename_i y q hx hy
      obtain ⟨hcc, hob⟩ := hob
      subst hcc
      have hy' : Rd I (ρ b) (.bool y) := by
        split at hy
        · simp at hy; obtain ⟨rfl, _⟩ := hy; exact rdD hb
        · rename_i pc x'
          simp only [Option.some.injEq, Prod.mk.injEq] at hy; obtain ⟨rfl, rfl⟩ := hy
          exact rdD (rdCond hb (hob trivial))
        · cases hy
      refine RSound.val hrel rfl (u := ρ b) ?_ (.d _ _ hy')
      unfold execOp; simp only [ho, hρc, asBool, Sem.run_bind, Sem.run_pure, Result.andThen_ok, Bool.false_eq_true, if_false]
    · exact hob.elim
  · exact hob.elim

theorem cells_all {v : Value} {x : T} (hx : RdT I m L v x) (h1 : (cellsT x).all T.oneT = true) : v.cells.toList.length = (cellsT x).length ∧ (∀ u ∈ v.cells.toList, u.oneCell' = true) ∧ ∀ (i : Nat) u t, v.cells.toList[i]? = some u → (cellsT x)[i]? = some t → RdT I m L u t := by
  have one : ∀ (u : Value), u.oneCell' = true → u.cells.toList = [u] := fun u hu => by cases u <;> simp_all [Value.oneCell', Value.cells]
  have single : ∀ (t : T), cellsT t = [t] → RdT I m L v t → v.oneCell' = true → v.cells.toList.length = (cellsT t).length ∧ (∀ u ∈ v.cells.toList, u.oneCell' = true) ∧ ∀ (i : Nat) u s, v.cells.toList[i]? = some u → (cellsT t)[i]? = some s → RdT I m L u s := by
    intro t ht hr hv
    rw [one v hv, ht]
    refine ⟨rfl, by simpa using hv, fun i u s hu hs => ?_⟩
    rcases i with _ | i
    · simp at hu hs; subst hu; subst hs; exact hr
    · simp at hu
  cases hx with
  | undef => simp [cellsT, T.oneT] at h1
  | d _ d hd =>
    by_cases ht : ∃ ds, d = .tup ds
    · obtain ⟨ds, rfl⟩ := ht; simp [cellsT, D.cells, T.oneT, D.one] at h1
    · obtain ⟨q1, q2, q3⟩ := hd.cells (fun ds e => ht ⟨ds, e⟩)
      refine ⟨by simp [cellsT, q1], fun u hu => ?_, fun i u t hu ht' => ?_⟩
      · obtain ⟨i, hi, rfl⟩ := List.mem_iff_getElem.1 hu
        have hi' : i < d.cells.length := by simp at hi; omega
        exact (q3 i _ d.cells[i] (by rw [← Array.getElem?_toList]; exact List.getElem?_eq_getElem hi) (List.getElem?_eq_getElem hi')).one (q2 _ (List.getElem_mem hi'))
      · simp only [cellsT, List.getElem?_map] at ht'
        cases hd' : d.cells[i]? with
        | none => simp [hd'] at ht'
        | some y =>
          simp [hd'] at ht'
          subst ht'
          exact .d _ _ (q3 i u y (by simpa using hu) hd')
  | nils s => exact single _ rfl (.nils s) rfl
  | ptr id b off q1 q2 => exact single _ rfl (.ptr id b off q1 q2) rfl
  | eptr b o size els k off val q1 q2 q3 q4 => exact single _ rfl (.eptr b o size els k off val q1 q2 q3 q4) rfl
  | tup => simp [cellsT, T.oneT] at h1
  | cond => simp [cellsT, T.oneT] at h1
  | row A n c id q1 q2 => exact single _ rfl (.row A n c id q1 q2) rfl
  | rptr a id k off q1 q2 => exact single _ rfl (.rptr a id k off q1 q2) rfl
  | map r id q1 q2 => exact single _ rfl (.map r id q1 q2) rfl

/-- A new variable with known cells. -/
theorem newVar_ok (hrel : WRel w0 I0 w I m L) (hn : L[nid]? = some .dead) {ty : TypeId} {vs : Array Value} {cs : List T} (hl : vs.toList.length = cs.length) (h1 : ∀ u ∈ vs.toList, u.oneCell' = true)
    (hr : ∀ (i : Nat) u t, vs.toList[i]? = some u → cs[i]? = some t → RdT I m L u t) :
    ∃ m', Le I m L I m' (L.set nid (.var ty cs)) ∧ WRel w0 I0 (w.alloc (.cells vs ty)) I m' (L.set nid (.var ty cs)) ∧ RdT I m' (L.set nid (.var ty cs)) (.pointer (some ⟨w.heap.size, 0, none⟩)) (.ptr nid 0) := by
  have hle : Le I m L I (upd m nid (.pointer (some ⟨w.heap.size, 0, none⟩))) (L.set nid (.var ty cs)) := Le.new hn rfl
  have hlt : nid < L.length := (List.getElem?_eq_some_iff.1 hn).1
  refine ⟨_, hle, hrel.alloc _ hn rfl rfl ⟨w.heap.size, vs, rfl, hrel.below.size, heap_alloc_new w _, by simpa using hl, fun i x t hx ht => ?_, hrel.sat.noB (Nat.le_refl _)⟩, ?_⟩
  · exact ⟨(hr i x t (by simpa using hx) ht).mono hle, h1 x (List.mem_of_getElem? (by simpa using hx : vs.toList[i]? = some x))⟩
  · exact .ptr nid _ 0 (by unfold isVar; rw [List.getElem?_set, if_pos rfl, if_pos hlt]; rfl) (upd_same m nid _)

theorem box_ok (hrel : WRel w0 I0 w I m L) {e : TypeId} {x : Operand} (ho : o.op = .box e x) (hr : RdT I m L (ρ x) (ρT x)) (h1 : (cellsT (ρT x)).all T.oneT = true) :
    RSound P w0 I0 o ρ w I m l L nid ⟨.ptr nid 0, .new (.var e (cellsT (ρT x))), (cellsT (ρT x)).all T.oneT = true⟩ := by
  intro hn
  obtain ⟨c1, c2, c3⟩ := cells_all hr h1
  have hx : (execOp ρ o).run P w = .ok (.value (.pointer (some ⟨w.heap.size, 0, none⟩))) (w.alloc (.cells (ρ x).cells e)) := by
    unfold execOp; simp [ho, Instr.box, newVar, newRow]
  simp only [hx, StepOk]
  exact newVar_ok hrel hn c1 c2 c3

theorem alloc_ok (hE : TOk P V.E) (hrel : WRel w0 I0 w I m L) {e : TypeId} {i : TI} (ho : o.op = .alloc e) (hi : V.E e = some i) :
    RSound P w0 I0 o ρ w I m l L nid ⟨.ptr nid 0, .new (.var e (i.zero.map .d)), True⟩ := by
  intro hn
  obtain ⟨z, h1, h2, h3, h4⟩ := run_zero_ti hE hi w
  obtain ⟨q1, q2, q3⟩ := zerosOk_rd I _ _ h2
  have hx : (execOp ρ o).run P w = .ok (.value (.pointer (some ⟨w.heap.size, 0, none⟩))) (w.alloc (.cells z.cells e)) := by
    unfold execOp; simp [ho, Instr.alloc, h1, newVar, newRow]
  simp only [hx, StepOk]
  refine newVar_ok hrel hn (by simpa using q1) (fun u hu => ?_) (fun j u t hu ht => ?_)
  · obtain ⟨j, hj, rfl⟩ := List.mem_iff_getElem.1 hu
    have hj' : j < i.zero.length := by omega
    exact (q3 j _ _ (List.getElem?_eq_getElem hj) (List.getElem?_eq_getElem hj')).one (q2 _ (List.getElem_mem hj'))
  · rw [List.getElem?_map] at ht
    cases hz : i.zero[j]? with
    | none => simp [hz] at ht
    | some d => simp [hz] at ht; subst ht; exact .d _ _ (q3 j u d hu hz)

theorem field_ok (hE : TOk P V.E) {s : TypeId} {f : Nat} {v : Value} {x : T} (hx : RdT I m L v x) (hob : (fieldP V.E s f x).ob) :
    (fieldP V.E s f x).eff = .none ∧ ∃ u, (Instr.fieldAt s v f).run P w = .ok u w ∧ RdT I m L u (fieldP V.E s f x).t := by
  have key : ∀ {a : Addr} {sz bt : Nat} {z : List D} {fs : List (Nat × TypeId)} {p : Nat × TypeId}, V.E s = some ⟨sz, bt, z, .struct fs⟩ → fs[f]? = some p → 0 < sizeE V.E p.2 →
      (Instr.fieldAt s (.pointer (some a)) f).run P w = .ok (.pointer (some (a.add p.1))) w := by
    intro a sz bt z fs p hs hp hpos
    obtain ⟨gs, hu, rfl⟩ := underlying_struct hE hs
    rw [List.getElem?_map] at hp
    cases hg : gs.toList[f]? with
    | none => simp [hg] at hp
    | some g =>
      simp [hg] at hp
      subst hp
      have hg' : gs[f]? = some g := by simpa using hg
      have hsz : ∃ n, (sizeOf g.type).run P w = .ok n w ∧ n ≠ 0 := by
        cases hi : V.E g.type with
        | none => simp [sizeE, hi] at hpos
        | some i => exact ⟨i.size, run_sizeOf_ti hE hi w, by simp [sizeE, hi] at hpos; omega⟩
      obtain ⟨n, hn, hne⟩ := hsz
      simp [Instr.fieldAt, run_underlying hu, hg', Instr.sureAddr, fieldPlace, hn, hne]
  cases hx with
  | ptr id b off q1 q2 =>
    simp only [fieldP] at hob ⊢
    split at hob
    · rename_i fs hs
      split at hob
      · rename_i p hp
        split at hob
        · rename_i hpos
          simp only [if_pos hpos]
          exact ⟨rfl, _, key hs hp hpos, by rw [Addr.add_mid]; exact .ptr id b _ q1 q2⟩
        · exact hob.elim
      · exact hob.elim
    · exact hob.elim
  | eptr b o size els k off val q1 q2 q3 q4 =>
    simp only [fieldP] at hob ⊢
    split at hob
    · rename_i fs hs
      split at hob
      · rename_i p hp
        split at hob
        · rename_i hpos
          simp only [if_pos hpos]
          refine ⟨rfl, _, key hs hp hpos, ?_⟩
          rw [Addr.add_mid, Nat.add_assoc]
          exact .eptr b o size els k _ val q1 q2 q3 q4
        · exact hob.elim
      · exact hob.elim
    · exact hob.elim
  | rptr a id k off q1 q2 =>
    simp only [fieldP] at hob ⊢
    split at hob
    · rename_i fs hs
      split at hob
      · rename_i p hp
        split at hob
        · rename_i hpos
          simp only [if_pos hpos]
          refine ⟨rfl, _, key hs hp hpos, .rptr _ id k _ q1 fun e size els hl => ?_⟩
          obtain ⟨b, n, c, h1, rfl⟩ := q2 e size els hl
          exact ⟨b, n, c, h1, by rw [Addr.add_mid, Nat.add_assoc]⟩
        · exact hob.elim
      · exact hob.elim
    · exact hob.elim
  | _ => exact hob.elim
end
end Go.Eva

/-
  Eva, part I: the rest of the operations.
-/
namespace Go.Eva
open Go Go.RowKit
variable [Drw]

section
variable {P : Program} {V : Env} {w0 w : World} {I0 I : Imm} {m : Nat → Value} {l L : List AO} {nid : Nat} {o : Oper} {ρ : Operand → Value} {ρT : Operand → T}

theorem fieldV_ok (hE : TOk P V.E) {s : TypeId} {f : Nat} {v : Value} {x : T} (hx : RdT I m L v x) (hob : (fieldV V.E s f x).ob) :
    (fieldV V.E s f x).eff = .none ∧ ∃ u, (Instr.field s v f).run P w = .ok u w ∧ RdT I m L u (fieldV V.E s f x).t := by
  unfold fieldV at hob ⊢
  split at hob
  · rename_i cs
    split at hob
    · rename_i fs hs
      split at hob
      · rename_i p hp
        split at hob
        · rename_i i hi
          split at hob
          · rename_i hle
            simp only [if_pos hle]
            have := rdD hx
            generalize hD : D.agg cs = dd at this
            cases this <;> first | (cases hD; done) | skip
            rename_i vs ds q1 q2 q3
            injection hD with hD; subst hD
            obtain ⟨gs, hu, rfl⟩ := underlying_struct hE hs
            rw [List.getElem?_map] at hp
            cases hg : gs.toList[f]? with
            | none => simp [hg] at hp
            | some g =>
              simp [hg] at hp; subst hp
              have hg' : gs[f]? = some g := by simpa using hg
              simp only at hi hle ⊢
              have hagg := run_isAgg_ti hE hi
              have hsz := run_sizeOf_ti hE hi
              cases ha : i.desc.agg with
              | true =>
                refine ⟨rfl, .agg (vs.extract g.offset (g.offset + i.size)), ?_, ?_⟩
                · simp only [Instr.field, Sem.run_bind, run_underlying hu, Result.andThen_ok, hg', asAgg, Sem.run_pure, part, hagg, ha, if_true, hsz]
                · simp only [R.ok, mkD, if_true]
                  refine .d _ _ (.agg _ _ (by simp [q1]; omega) (fun d hd => q2 d (List.mem_of_mem_drop (List.mem_of_mem_take hd))) (fun j u d hu' hd' => ?_))
                  rw [List.getElem?_take] at hd'
                  split at hd'
                  · rename_i hj
                    rw [List.getElem?_drop] at hd'
                    rw [Array.getElem?_extract] at hu'
                    split at hu'
                    · exact q3 _ u d hu' hd'
                    · cases hu'
                  · cases hd'
              | false =>
                have h1 := ti_size_one hE hi ha
                have hlt : g.offset < vs.size := by omega
                refine ⟨rfl, vs[g.offset], ?_, ?_⟩
                · simp only [Instr.field, Sem.run_bind, run_underlying hu, Result.andThen_ok, hg', asAgg, Sem.run_pure, part, hagg, ha, Bool.false_eq_true, if_false, Array.getElem?_eq_getElem hlt]
                · have hlt' : g.offset < cs.length := by omega
                  have : ((cs.drop g.offset).take i.size).headD .nilp = cs[g.offset] := by
                    rw [h1, List.drop_eq_getElem_cons hlt']; rfl
                  simp only [R.ok, mkD, Bool.false_eq_true, if_false, this]
                  exact .d _ _ (q3 g.offset _ _ (Array.getElem?_eq_getElem hlt) (List.getElem?_eq_getElem hlt'))
          · exact hob.elim
        · exact hob.elim
      · exact hob.elim
    · exact hob.elim
  · exact hob.elim

theorem wrap64_id {n : Int} (h : -9223372036854775808 ≤ n ∧ n ≤ 9223372036854775807) : IntKind.i64.wrap n = n := IntWalk.i64_in n (by omega)

theorem arith_ok {k : IntKind} {n : Int} (h : (arith k n).2) : (arith k n).1 = .int k (k.wrap n) := by
  cases k <;> simp only [arith] at h ⊢
  rw [wrap64_id h]

theorem bin_ok (hEq : EqOk P V.okEq) {op : BinOp} {ty : TypeId} {x y : Operand} {u v : Value} {a b : D} (ha : Rd I u a) (hb : Rd I v b) {r : D} {ob : Prop} (h : binD V.okEq op ty a b = some (r, ob)) (hob : ob) :
    ∃ z, ((do eqGuard op ty x y u v; binOp op ty u v : Sem Value)).run P w = .ok z w ∧ Rd I z r := by
  unfold binD at h
  split at h
  · -- ints
    rename_i k p k' q
    cases ha; cases hb
    split at h
    · cases h
    · rename_i hk
      have hk : k = k' := Decidable.not_not.1 hk
      subst hk
      have hg : ∀ w, (eqGuard op ty x y (.int k p) (.int k q)).run P w = .ok () w := fun w => by rw [eqGuard_at_int]; rfl
      simp only [Sem.run_bind, hg, Result.andThen_ok]
      split at h <;> first | (cases h; done) | skip
      all_goals try simp only [Option.some.injEq, Prod.mk.injEq] at h
      · obtain ⟨rfl, rfl⟩ := h; exact ⟨_, by rw [binOp_add]; rfl, by rw [arith_ok hob]; exact .int _ _⟩
      · obtain ⟨rfl, rfl⟩ := h; exact ⟨_, by rw [binOp_sub]; rfl, by rw [arith_ok hob]; exact .int _ _⟩
      · obtain ⟨rfl, rfl⟩ := h; exact ⟨_, by rw [binOp_mul]; rfl, by rw [arith_ok hob]; exact .int _ _⟩
      · split at h
        · simp only [Option.some.injEq, Prod.mk.injEq] at h
          obtain ⟨rfl, rfl⟩ := h
          refine ⟨.int .i64 (IntKind.i64.wrap (p.tdiv q)), by rw [binOp_quo]; simp [Op.intDiv, show q ≠ 0 by omega], ?_⟩
          have h1 : p.tdiv q = p / q := Int.tdiv_eq_ediv_of_nonneg hob.1
          have h2 : 0 ≤ p / q := Int.ediv_nonneg hob.1 (by omega)
          have h3 : p / q ≤ p := Int.ediv_le_self q hob.1
          rw [h1, wrap64_id (by omega)]; exact .int _ _
        · cases h
      · obtain ⟨rfl, rfl⟩ := h
        refine ⟨.int k (p.tmod q), by rw [binOp_rem]; simp [Op.intDiv, show q ≠ 0 by omega], ?_⟩
        rw [Int.tmod_eq_emod_of_nonneg hob.1]; exact .int _ _
      · obtain ⟨rfl, rfl⟩ := h; exact ⟨_, by rw [binOp_eql]; rfl, by rw [show (p == q) = decide (p = q) by rw [Bool.eq_iff_iff]; simp]; exact .bool _⟩
      · obtain ⟨rfl, rfl⟩ := h; exact ⟨_, by rw [binOp_neq]; rfl, by rw [show (p != q) = !decide (p = q) by rw [Bool.eq_iff_iff]; simp [bne]]; exact .bool _⟩
      · obtain ⟨rfl, rfl⟩ := h; exact ⟨_, by rw [binOp_lss]; rfl, .bool _⟩
      · obtain ⟨rfl, rfl⟩ := h; exact ⟨_, by rw [binOp_leq]; rfl, .bool _⟩
      · obtain ⟨rfl, rfl⟩ := h; exact ⟨_, by rw [binOp_gtr]; rfl, .bool _⟩
      · obtain ⟨rfl, rfl⟩ := h; exact ⟨_, by rw [binOp_geq]; rfl, .bool _⟩
  · -- bools
    rename_i p q
    split at h
    · split at h
      · rename_i hk
        simp only [Option.some.injEq, Prod.mk.injEq] at h; obtain ⟨rfl, rfl⟩ := h
        exact ⟨_, hEq ty _ hk .eql x y I u v _ _ w ha hb (.inl ⟨_, _, rfl, rfl, rfl⟩) (.inl rfl), by simp [beqD]; exact .bool _⟩
      · cases h
    · split at h
      · rename_i hk
        simp only [Option.some.injEq, Prod.mk.injEq] at h; obtain ⟨rfl, rfl⟩ := h
        exact ⟨_, hEq ty _ hk .neq x y I u v _ _ w ha hb (.inl ⟨_, _, rfl, rfl, rfl⟩) (.inr rfl), by simp [beqD]; exact .bool _⟩
      · cases h
    · cases h
  · -- strings
    rename_i p q
    cases ha; cases hb
    have hg : ∀ w, (eqGuard op ty x y (.string p) (.string q)).run P w = .ok () w := fun w => by rw [eqGuard_at_string]; rfl
    simp only [Sem.run_bind, hg, Result.andThen_ok]
    split at h <;> first | (cases h; done) | skip
    all_goals simp only [Option.some.injEq, Prod.mk.injEq] at h; obtain ⟨rfl, rfl⟩ := h
    · exact ⟨.bool (p == q), by rw [beq_toListBytes]; simp [binOp, Op.stringOp], .bool _⟩
    · exact ⟨.bool (!(p == q)), by rw [beq_toListBytes]; simp [binOp, Op.stringOp], .bool _⟩
    · exact ⟨.string (p ++ q), by simp [binOp, Op.stringOp, hob], .str _⟩
  · -- structs
    rename_i xs ys
    split at h
    · split at h
      · rename_i ls hk
        split at h
        · cases h
        · rename_i hne
          simp only [Option.some.injEq, Prod.mk.injEq] at h; obtain ⟨rfl, rfl⟩ := h
          exact ⟨_, hEq ty _ hk .eql x y I u v _ _ w ha hb (.inr ⟨_, _, rfl, rfl, hne, hob.1, hob.2⟩) (.inl rfl), by simp [beqD]; exact .bool _⟩
      · cases h
    · split at h
      · rename_i ls hk
        split at h
        · cases h
        · rename_i hne
          simp only [Option.some.injEq, Prod.mk.injEq] at h; obtain ⟨rfl, rfl⟩ := h
          exact ⟨_, hEq ty _ hk .neq x y I u v _ _ w ha hb (.inr ⟨_, _, rfl, rfl, hne, hob.1, hob.2⟩) (.inr rfl), by simp [beqD]; exact .bool _⟩
      · cases h
    · cases h
  · cases h

theorem un_ok {op : UnOp} {u : Value} {a : D} (ha : Rd I u a) {r : D} {ob : Prop} (h : unD op a = some (r, ob)) (hob : ob) : ∃ z, (Op.unary op u).run P w = .ok z w ∧ Rd I z r := by
  unfold unD at h
  split at h
  · cases ha
    split at h
    · simp only [Option.some.injEq, Prod.mk.injEq] at h; obtain ⟨rfl, rfl⟩ := h
      exact ⟨_, by simp only [Op.unary, Sem.run_pure], .bool _⟩
    · cases h
  · cases ha
    split at h
    · simp only [Option.some.injEq, Prod.mk.injEq] at h; obtain ⟨rfl, rfl⟩ := h
      exact ⟨_, by simp [Op.unary, Op.intArith]; rfl, by rw [arith_ok hob]; simp; exact .int _ _⟩
    · cases h
  · cases h

theorem index_ok (hE : TOk P V.E) (hrel : WRel w0 I0 w I m L) (hc : Com l L) {t : TypeId} {v vi : Value} {x i : T} (hx : RdT I m L v x) (hi : RdT I m L vi i) (hob : (indexP V.E t l x i).ob) :
    (indexP V.E t l x i).eff = .none ∧ ∃ u, (Instr.indexAt t v vi).run P w = .ok u w ∧ RdT I m L u (indexP V.E t l x i).t := by
  unfold indexP at hob ⊢
  split at hob
  · rename_i e k n hs hn
    have hvi : vi = .int k n := by
      unfold intOfT at hn
      split at hn
      · simp at hn; obtain ⟨rfl, rfl⟩ := hn; have := rdD hi; cases this; rfl
      · cases hn
    subst hvi
    have hu := underlying_slice hE hs
    have key : ∀ (a : Addr) (len cap : Nat), 0 ≤ n → n < len → ∀ z, (V.E e).map TI.size = some z → (Instr.indexAt t (.slice (some a) len cap) (.int k n)).run P w = .ok (.pointer (some (a.add (n.toNat * z)))) w := by
      intro a len cap h0 h1 z hz
      cases hie : V.E e with
      | none => simp [hie] at hz
      | some ie =>
        simp [hie] at hz
        simp [Instr.indexAt, run_underlying hu, asIntOf, h0, h1, run_sizeOf_ti hE hie, hz]
    have hpos : ∀ {size : Nat}, size = sizeE V.E e ∧ 0 < size → (V.E e).map TI.size = some size := by
      intro size hsz
      unfold sizeE at hsz
      cases hie : V.E e with
      | none => simp [hie] at hsz; omega
      | some ie => simp [hie] at hsz; simp [hsz.1]
    split at hob
    · rename_i size els
      split at hob
      · rename_i hsz
        simp only [if_pos hsz]
        obtain ⟨h0, h1⟩ := hob
        have := rdD hx
        generalize hD : D.slice size els = dd at this
        cases this <;> first | (cases hD; done) | skip
        · injection hD with hD1 hD2; subst hD2; simp at h1; omega
        · rename_i b off len c size' els' val q1 q2 q3 q4 q5 q6
          injection hD with hD1 hD2; subst hD1; subst hD2
          refine ⟨trivial, _, key _ len c h0 (by omega) size (hpos hsz), ?_⟩
          rw [Addr.add_mid]
          have := RdT.eptr (I := I) (m := m) (l := L) b off size els n.toNat 0 val (by omega) q4 (fun j hj => q5 j (by rw [← q1]; exact hj)) q6
          simpa using this
      · exact hob.elim
    · rename_i id
      have go : ∀ e' size els, l[id]? = some (.row e' size els) ∨ l[id]? = some (.frow e' size els) → size = sizeE V.E e ∧ 0 < size → 0 ≤ n ∧ n < els.length →
          ∃ u, (Instr.indexAt t v (.int k n)).run P w = .ok u w ∧ RdT I m L u (.rptr id n.toNat 0) := by
        intro e' size els ho hsz ⟨h0, h1⟩
        have ho' : L[id]? = some (.row e' size els) ∨ L[id]? = some (.frow e' size els) := by rcases ho with ho | ho; exact .inl (hc.get ho); exact .inr (hc.get ho)
        have hx' : ∃ A n' c, v = .slice A n' c ∧ m id = v := by
          cases hx with
          | row A n' c _ q1 q2 => exact ⟨A, n', c, rfl, q2 (by unfold isRow; rcases ho' with h | h <;> simp [h, AO.isRow])⟩
        obtain ⟨A, n', c, rfl, hm⟩ := hx'
        have hown : ∃ xs, w.ownsRow w0.heap.size e' size (m id) els.length xs := by
          rcases ho' with h | h
          · obtain ⟨xs, k1, _⟩ := hrel.obj id _ h; exact ⟨xs, k1⟩
          · obtain ⟨xs, k1, _⟩ := hrel.obj id _ h; exact ⟨xs, k1⟩
        obtain ⟨xs, k1⟩ := hown
        rcases k1.2 with ⟨_, q⟩ | ⟨g, cap, cur, q, _⟩
        · simp [q] at h1; omega
        · have q' := hm.symm.trans q
          injection q' with q1 q2 q3
          subst q1; subst q2; subst q3
          refine ⟨_, key _ _ _ h0 h1 size (hpos hsz), .rptr _ id _ 0 ?_ fun e1 s1 els1 hl => ⟨g, els.length, _, q, ?_⟩⟩
          · rcases ho' with h | h <;> exact (List.getElem?_eq_some_iff.1 h).1
          · have : s1 = size := by rcases ho' with h | h <;> rcases hl with hl | hl <;> rw [h] at hl <;> cases hl <;> rfl
            subst this
            rw [Addr.add_mid]; simp
      split at hob
      · rename_i e' size els ho
        split at hob
        · rename_i hsz
          simp only [if_pos hsz]
          exact ⟨trivial, go e' size els (.inl ho) hsz hob⟩
        · exact hob.elim
      · rename_i e' size els ho
        split at hob
        · rename_i hsz
          simp only [if_pos hsz]
          exact ⟨trivial, go e' size els (.inr ho) hsz hob⟩
        · exact hob.elim
      · exact hob.elim
    · exact hob.elim
  · exact hob.elim

end
end Go.Eva

/-
  Eva, part J: slices, struct and slice literals, appends, calls; the whole.
-/
namespace Go.Eva
open Go Go.RowKit
variable [Drw]

theorem flat_drop {size : Nat} (els : List D) (hs : ∀ d ∈ els, d.cells.length = size) (k : Nat) : flat (els.drop k) = (flat els).drop (k * size) := by
  induction els generalizing k with
  | nil => simp [flat]
  | cons e els ih =>
    have he := hs e (by simp)
    rcases k with _ | k
    · simp
    · simp only [List.drop_succ_cons]
      rw [ih (fun d hd => hs d (by simp [hd])) k]
      simp only [flat, List.flatMap_cons]
      rw [show (k + 1) * size = e.cells.length + k * size by rw [he, Nat.add_mul]; omega, ← List.drop_drop, List.drop_left]
theorem flat_take {size : Nat} (els : List D) (hs : ∀ d ∈ els, d.cells.length = size) (k : Nat) : flat (els.take k) = (flat els).take (k * size) := by
  induction els generalizing k with
  | nil => simp [flat]
  | cons e els ih =>
    have he := hs e (by simp)
    rcases k with _ | k
    · simp [flat]
    · simp only [List.take_succ_cons]
      have := ih (fun d hd => hs d (by simp [hd])) k
      simp only [flat, List.flatMap_cons] at this ⊢
      rw [show (k + 1) * size = e.cells.length + k * size by rw [he, Nat.add_mul]; omega, List.take_length_add_append, this]
theorem flat_append (a b : List D) : flat (a ++ b) = flat a ++ flat b := by simp [flat]

section
variable {P : Program} {V : Env} {w0 w : World} {I0 I : Imm} {m : Nat → Value} {l L : List AO} {nid : Nat} {o : Oper} {ρ : Operand → Value} {ρT : Operand → T}

theorem rd_cut {A : Option Addr} {n c lo hi size : Nat} {els : List D} (h : Rd I (.slice A n c) (.slice size els)) (h1 : lo ≤ hi) (h2 : hi ≤ els.length) :
    n = els.length ∧ n ≤ c ∧ Rd I (.slice (if c = lo then A else A.map (·.add (lo * size))) (hi - lo) (c - lo)) (.slice size ((els.take hi).drop lo)) := by
  cases h with
  | slice0 A c size hc =>
    have : hi = 0 := by simpa using h2
    subst this
    have : lo = 0 := by omega
    subst this
    refine ⟨rfl, Nat.zero_le _, ?_⟩
    simpa using Rd.slice0 (I := I) _ c size hc
  | slice b off n c size els val q1 q2 q3 q4 q5 q6 =>
    refine ⟨q1.symm, q2, ?_⟩
    by_cases he : lo = hi
    · subst he
      have : (els.take lo).drop lo = [] := by simp
      rw [this, Nat.sub_self]
      exact .slice0 _ _ _ (by omega)
    · have hne : c ≠ lo := by omega
      rw [if_neg hne]
      simp only [Option.map_some, Addr.add_mid]
      have hs : ∀ d ∈ els, d.cells.length = size := fun d hd => (q4 d hd).1
      refine .slice b (off + lo * size) (hi - lo) (c - lo) size _ (fun k => val (lo * size + k)) (by simp; omega) (by omega) (by omega) (fun d hd => q4 d (List.mem_of_mem_take (List.mem_of_mem_drop hd))) (fun k hk => ?_) (fun k x hx => ?_)
      · rw [Nat.add_assoc]
        apply q5
        have : lo * size + (hi - lo) * size = hi * size := by rw [← Nat.add_mul]; congr 1; omega
        have : hi * size ≤ n * size := Nat.mul_le_mul_right _ (by omega)
        omega
      · rw [flat_drop _ (fun d hd => hs d (List.mem_of_mem_take hd)), flat_take _ hs, List.getElem?_drop, List.getElem?_take] at hx
        split at hx
        · exact q6 _ x hx
        · cases hx

theorem slice_ok (hE : TOk P V.E) {t e : TypeId} {sz bt : Nat} {z : List D} (hs : V.E t = some ⟨sz, bt, z, .slice e⟩) {v : Value} {x : T} {lo hi : Option Operand} (hx : RdT I m L v x)
    (hlo : ∀ a, lo = some a → RdT I m L (ρ a) (ρT a)) (hhi : ∀ a, hi = some a → RdT I m L (ρ a) (ρT a)) (hsz : ∀ size els, x = .d (.slice size els) → size = sizeE V.E e ∧ (V.E e).isSome = true) (hob : (sliceT x (lo.map ρT) (hi.map ρT)).ob) :
    (sliceT x (lo.map ρT) (hi.map ρT)).eff = .none ∧ ∃ u, (Instr.sliceAt t v (lo.map ρ) (hi.map ρ) none).run P w = .ok u w ∧ RdT I m L u (sliceT x (lo.map ρT) (hi.map ρT)).t := by
  have hu := underlying_slice hE hs
  have hu' : P.underlying t = some (.slice (P.elem t)) := by simp [Program.elem, hu]
  have he : P.elem t = e := by simp [Program.elem, hu]
  have hint : ∀ {a : T} {k : IntKind} {n : Int} {v : Value}, intOfT a = some (k, n) → RdT I m L v a → v = .int k n := by
    intro a k n v hn hr
    unfold intOfT at hn
    split at hn
    · simp at hn; obtain ⟨rfl, rfl⟩ := hn; have := rdD hr; cases this; rfl
    · cases hn
  unfold sliceT at hob ⊢
  split at hob
  · rename_i size els
    obtain ⟨hsize, hsome⟩ := hsz size els rfl
    have hd := rdD hx
    obtain ⟨A, n, c, rfl⟩ : ∃ A n c, v = .slice A n c := by cases hd <;> exact ⟨_, _, _, rfl⟩
    obtain ⟨ie, hie⟩ := Option.isSome_iff_exists.1 hsome
    have hze : ie.size = size := by rw [hsize]; simp [sizeE, hie]
    have hsizeof : (sizeOf (P.elem t)).run P w = .ok size w := by rw [he, run_sizeOf_ti hE hie, hze]
    have hat : ∀ a b, (Instr.sliceAt t (.slice A n c) a b none).run P w = (Instr.slice t (.slice A n c) a b none).run P w := fun a b => run_sliceAt_slice w t _ a b none hu'
    have fin : ∀ lo hi : Nat, lo ≤ hi → hi ≤ els.length → RdT I m L (sliced A lo hi c size) (.d (.slice size ((els.take hi).drop lo))) := by
      intro lo hi h1 h2
      obtain ⟨_, _, h3⟩ := rd_cut hd h1 h2
      refine .d _ _ ?_
      simpa [sliced] using h3
    obtain ⟨hnl, hnc, _⟩ := rd_cut hd (Nat.zero_le els.length) (Nat.le_refl _)
    cases lo with
    | none =>
      cases hi with
      | none =>
        simp only [Option.map_none] at hob ⊢
        refine ⟨rfl, _, by rw [hat, run_slice_all w t A n c hu', hsizeof]; rfl, ?_⟩
        have := fin 0 els.length (Nat.zero_le _) (Nat.le_refl _)
        rw [hnl]
        simpa [R.ok] using this
      | some b =>
        simp only [Option.map_none, Option.map_some] at hob ⊢
        split at hob
        · rename_i k h hb
          have hv := hint hb (hhi b rfl)
          simp only
          refine ⟨trivial, _, by rw [hat, hv, run_slice_h w t A n c hu' _ _ hob.1 (by omega), hsizeof]; rfl, ?_⟩
          have := fin 0 h.toNat (Nat.zero_le _) (by omega)
          simpa using this
        · exact hob.elim
    | some a =>
      cases hi with
      | none =>
        simp only [Option.map_none, Option.map_some] at hob ⊢
        split at hob
        · rename_i k h ha
          have hv := hint ha (hlo a rfl)
          simp only
          refine ⟨trivial, _, by rw [hat, hv, run_slice_l w t A n c hu' _ _ hob.1 (by omega), hsizeof]; rfl, ?_⟩
          have := fin h.toNat els.length (by omega) (Nat.le_refl _)
          rw [hnl]
          simpa using this
        · exact hob.elim
      | some b =>
        simp only [Option.map_some] at hob ⊢
        split at hob
        · rename_i k g k' h ha hb
          have hv := hint ha (hlo a rfl)
          have hv' := hint hb (hhi b rfl)
          simp only
          refine ⟨trivial, _, by rw [hat, hv, hv', run_slice_lh w t A n c hu' _ _ _ _ hob.1 hob.2.1 (by omega), hsizeof]; rfl, ?_⟩
          exact fin g.toNat h.toNat (by omega) (by omega)
        · exact hob.elim
  · exact hob.elim

end
end Go.Eva
