/-
  The evaluator, the printed walks and the plain laws, part 4 of 9.
-/
import Derived.Test.YtjfkfkjkbgiciaaGreatDoorX3
import Derived.RangeFuncIn
import Derived.ProofKit
import Derived.ChangeArms
import Derived.Deep.Slices
import Derived.Carry
import Derived.Shelf.GgSortFunc.InsertionK
import Derived.Shelf.SlSortCmp.InsertionK
set_option linter.all false
set_option linter.unnecessarySimpa false
set_option linter.deprecated false
set_option linter.unusedVariables false
set_option linter.unusedSimpArgs false
set_option linter.unusedSectionVars false
namespace Go.Eva
open Go Enc
variable {α : Type}
def kE (p : Int × α) : D := .int .i64 p.1
def vE [Enc α] (p : Int × α) : D := enc p.2
def midx (n : Int) (x : List (Int × α)) : Option Nat := x.findIdx? fun p => decide (n = p.1)
def mput (x : List (Int × α)) (n : Int) (v : α) : List (Int × α) := match midx n x with
  | some j => x.set j (n, v)
  | none => x ++ [(n, v)]
def mdel (x : List (Int × α)) (n : Int) : List (Int × α) := match midx n x with
  | some j => x.eraseIdx j
  | none => x
def mgetD (x : List (Int × α)) (n : Int) (z : α) : α := match midx n x with
  | some j => ((x[j]?).map (·.2)).getD z
  | none => z
def mhas (x : List (Int × α)) (n : Int) : Bool := (midx n x).isSome
def mkeys (x : List (Int × α)) : List Int := x.map (·.1)
theorem keyIdx_add (n : Int) : ∀ (x : List (Int × α)) (i : Nat), keyIdx n (x.map kE) i = (midx n x).map (· + i)
  | [], i => rfl
  | p :: x, i => by
    have ih := keyIdx_add n x (i + 1)
    simp only [List.map_cons, kE, keyIdx, midx, List.findIdx?_cons]
    by_cases h : n = p.1
    · simp [h]
    · simp only [h, if_false, decide_false]
      change keyIdx n (x.map kE) (i + 1) = _
      rw [ih]
      unfold midx
      cases x.findIdx? (fun p => decide (n = p.1)) with
      | none => rfl
      | some j => simp; omega
theorem keyIdx_E (n : Int) (x : List (Int × α)) : keyIdx n (x.map kE) 0 = midx n x := by
  rw [keyIdx_add]; cases midx n x <;> simp
theorem keysInt_E (x : List (Int × α)) : keysInt .i64 (x.map kE) = true := by
  simp [keysInt, kE]
theorem keysInt_nil (k : IntKind) : keysInt k [] = true := rfl
theorem midx_some {n : Int} {x : List (Int × α)} {j : Nat} (h : midx n x = some j) : ∃ v, x[j]? = some (n, v) := by
  unfold midx at h
  obtain ⟨hj, h1, h2⟩ := List.findIdx?_eq_some_iff_getElem.1 h
  simp at h1
  exact ⟨x[j].2, by rw [List.getElem?_eq_getElem hj]; simp [h1]⟩
theorem set_kE {n : Int} {x : List (Int × α)} {j : Nat} (h : midx n x = some j) (v : α) : (x.set j (n, v)).map kE = x.map kE := by
  obtain ⟨u, hu⟩ := midx_some h
  rw [List.map_set]
  apply List.ext_getElem?
  intro i
  by_cases hi : j = i
  · subst hi; rw [List.getElem?_set_self' , List.getElem?_map, hu]; rfl
  · rw [List.getElem?_set_ne hi]
def IsE (α : Type) [Enc α] (d : D) : Prop := enc (dec d : α) = d
theorem isE_iff [Enc α] (d : D) : IsE α d ↔ enc (dec d : α) = d := ⟨fun h => h, fun h => h⟩
theorem put_E [Enc α] (n : Int) (x : List (Int × α)) (d : D) (hd : IsE α d) :
    lookT.match_1 (fun _ => AO) (midx n x) (fun j => AO.map (x.map kE) ((x.map vE).set j d)) (fun _ => AO.map (x.map kE ++ [.int .i64 n]) (x.map vE ++ [d])) = AO.map ((mput x n (dec d)).map kE) ((mput x n (dec d)).map vE) := by
  unfold IsE at hd
  unfold mput
  cases h : midx n x with
  | none => simp [kE, vE, hd]
  | some j => simp only [set_kE h]; rw [List.map_set]; simp [vE, hd]
theorem erase_map {β : Type} (f : α → β) : ∀ (x : List α) (j : Nat), (x.map f).eraseIdx j = (x.eraseIdx j).map f
  | [], _ => by simp
  | p :: x, 0 => by simp
  | p :: x, j + 1 => by simp [erase_map f x j]
theorem del_E [Enc α] (n : Int) (x : List (Int × α)) :
    lookT.match_1 (fun _ => AO) (midx n x) (fun j => AO.map ((x.map kE).eraseIdx j) ((x.map vE).eraseIdx j)) (fun _ => AO.map (x.map kE) (x.map vE)) = AO.map ((mdel x n).map kE) ((mdel x n).map vE) := by
  unfold mdel
  cases h : midx n x with
  | none => rfl
  | some j => simp [erase_map]
theorem elAt_vE [Enc α] {n : Int} {x : List (Int × α)} {j : Nat} (h : midx n x = some j) (z : α) : elAt (x.map vE) j = enc (mgetD x n z) := by
  obtain ⟨v, hv⟩ := midx_some h
  simp [elAt, mgetD, h, hv, vE]
theorem get_E [Enc α] (n : Int) (x : List (Int × α)) (z : D) (p : Prop) (hd : IsE α z) :
    lookT.match_1 (fun _ => R) (midx n x) (fun j => (⟨.d (elAt (x.map vE) j), .none, p⟩ : R)) (fun _ => ⟨.d z, .none, p⟩) = ⟨.d (enc (mgetD x n (dec z))), .none, p⟩ := by
  unfold IsE at hd
  cases h : midx n x with
  | none => simp [mgetD, h, hd]
  | some j => simp only [elAt_vE h (dec z)]
theorem getok_E [Enc α] (n : Int) (x : List (Int × α)) (z : D) (p : Prop) (hd : IsE α z) :
    lookT.match_1 (fun _ => R) (midx n x) (fun j => (⟨.d (.tup [elAt (x.map vE) j, .bool true]), .none, p⟩ : R)) (fun _ => ⟨.d (.tup [z, .bool false]), .none, p⟩) = ⟨.d (.tup [enc (mgetD x n (dec z)), .bool (mhas x n)]), .none, p⟩ := by
  unfold IsE at hd
  cases h : midx n x with
  | none => simp [mgetD, mhas, h, hd]
  | some j => simp only [elAt_vE h (dec z)]; simp [mhas, h]
theorem mkeys_E (x : List (Int × α)) : (x.map kE).map (dec : D → Int) = mkeys x := by
  simp [mkeys, kE, Function.comp_def, dec_int]
theorem mkeys_E' (x : List (Int × α)) : x.map ((dec : D → Int) ∘ kE) = mkeys x := by rw [← mkeys_E, List.map_map]
theorem mkeys_enc (x : List (Int × α)) : (mkeys x).map (enc : Int → D) = x.map kE := by
  simp [mkeys, kE, Function.comp_def, enc_int]
theorem range5 : List.range 5 = [0, 1, 2, 3, 4] := rfl
theorem range6 : List.range 6 = [0, 1, 2, 3, 4, 5] := rfl
theorem range7 : List.range 7 = [0, 1, 2, 3, 4, 5, 6] := rfl
theorem range8 : List.range 8 = [0, 1, 2, 3, 4, 5, 6, 7] := rfl
structure IntK (k : IntKind) where
  n : Int
  deriving DecidableEq
instance {k : IntKind} : Enc (IntK k) := ⟨fun r => .int k r.n, fun d => match d with | .int _ n => ⟨n⟩ | _ => ⟨0⟩, 1, fun _ => rfl, fun _ => rfl, by simp [D.cells, D.one]⟩
theorem enc_intk {k : IntKind} (r : IntK k) : enc r = .int k r.n := rfl
theorem size_intk {k : IntKind} : Enc.size (IntK k) = 1 := rfl
theorem dec_intk {k j : IntKind} (n : Int) : (dec (.int j n) : IntK k) = ⟨n⟩ := rfl
theorem eta_intk {k : IntKind} (r : IntK k) : IntK.mk r.n = r := rfl
end Go.Eva
namespace Go.Eva
open Go Go.RowKit Enc
variable [Drw] [Rnd]
def bnd {α β : Type} (o : Option α) (f : α → Option β) : Option β := match o with | some x => f x | none => none
def grd {β : Type} (p : Prop) [Decidable p] (o : Option β) : Option β := if p then o else none
def ifb {β : Type} (c : Bool) (a b : Option β) : Option β := match c with | true => a | false => b
def inI (n : Int) : Prop := -9223372036854775808 ≤ n ∧ n ≤ 9223372036854775807
instance (n : Int) : Decidable (inI n) := inferInstanceAs (Decidable (_ ∧ _))
def at? {α : Type} (l : List α) (i : Int) : Option α := if 0 ≤ i then l[i.toNat]? else none
theorem bnd_some {α β : Type} {o : Option α} {f : α → Option β} {r : β} (h : bnd o f = some r) : ∃ x, o = some x ∧ f x = some r := by
  unfold bnd at h; split at h
  · rename_i x; exact ⟨x, rfl, h⟩
  · cases h
theorem grd_some {β : Type} {p : Prop} [Decidable p] {o : Option β} {r : β} (h : grd p o = some r) : p ∧ o = some r := by
  unfold grd at h; split at h
  · rename_i hp; exact ⟨hp, h⟩
  · cases h
theorem ifb_t {β : Type} {c : Bool} {a b : Option β} {r : β} (hc : c = true) (h : ifb c a b = some r) : a = some r := by subst hc; exact h
theorem ifb_f {β : Type} {c : Bool} {a b : Option β} {r : β} (hc : c = false) (h : ifb c a b = some r) : b = some r := by subst hc; exact h
theorem ifb_eq {β : Type} (c : Bool) (a b : Option β) : ifb c a b = if c = true then a else b := by cases c <;> rfl
theorem bnd_eq {α β : Type} {o : Option α} {f : α → Option β} {x : α} (h : o = some x) : bnd o f = f x := by subst h; rfl
theorem grd_eq {β : Type} {p : Prop} [Decidable p] {o : Option β} (h : p) : grd p o = o := if_pos h
theorem bnd_pure {α β : Type} (x : α) (f : α → Option β) : bnd (some x) f = f x := rfl
theorem at_some {α : Type} {l : List α} {i : Int} {x : α} (h : at? l i = some x) : 0 ≤ i ∧ i < l.length ∧ l[i.toNat]? = some x := by
  unfold at? at h; split at h
  · rename_i hi
    have := (List.getElem?_eq_some_iff.1 h).1
    exact ⟨hi, by omega, h⟩
  · cases h
theorem elAt_zero (d : D) (l : List D) : elAt (d :: l) 0 = d := rfl
theorem cell_enc {α : Type} [Enc α] {xs : List α} {k : Nat} {x : α} (h : xs[k]? = some x) : ((xs.map (enc : α → D)).drop k).take 1 = [enc x] := by
  obtain ⟨hk, rfl⟩ := List.getElem?_eq_some_iff.1 h
  have hk' : k < (xs.map (enc : α → D)).length := by simpa using hk
  rw [List.drop_eq_getElem_cons hk', List.getElem_map]; rfl
def iterO {σ ρ : Type} (step : σ → Option (σ ⊕ ρ)) : Nat → σ → Option ρ
  | 0, _ => none
  | n + 1, z => match step z with
    | some (.inl z') => iterO step n z'
    | some (.inr r) => some r
    | none => none
theorem iterO_mono {σ ρ : Type} {step : σ → Option (σ ⊕ ρ)} {r : ρ} : ∀ {n m : Nat} {z : σ}, n ≤ m → iterO step n z = some r → iterO step m z = some r
  | 0, _, _, _, h => by cases h
  | n + 1, 0, _, hm, _ => by omega
  | n + 1, m + 1, z, hm, h => by
    simp only [iterO] at h ⊢
    split at h <;> try (first | exact h | cases h)
    exact iterO_mono (by omega) h
open Classical in
noncomputable def loopO {σ ρ : Type} (step : σ → Option (σ ⊕ ρ)) (z : σ) : Option ρ := if h : ∃ n r, iterO step n z = some r then some (Classical.choose (Classical.choose_spec h)) else none
theorem loopO_of {σ ρ : Type} {step : σ → Option (σ ⊕ ρ)} {z : σ} {n : Nat} {r : ρ} (h : iterO step n z = some r) : loopO step z = some r := by
  have hx : ∃ n r, iterO step n z = some r := ⟨n, r, h⟩
  unfold loopO
  rw [dif_pos hx]
  have h1 := Classical.choose_spec (Classical.choose_spec hx)
  have h2 := iterO_mono (Nat.le_max_left n (Classical.choose hx)) h
  have h3 := iterO_mono (Nat.le_max_right n (Classical.choose hx)) h1
  rw [h3] at h2; exact h2
theorem loopO_some {σ ρ : Type} {step : σ → Option (σ ⊕ ρ)} {z : σ} {r : ρ} (h : loopO step z = some r) : ∃ n, iterO step n z = some r := by
  unfold loopO at h
  split at h
  · rename_i hx
    have h1 := Classical.choose_spec (Classical.choose_spec hx)
    cases h
    exact ⟨_, h1⟩
  · cases h
theorem loopO_eq {σ ρ : Type} (step : σ → Option (σ ⊕ ρ)) (z : σ) : loopO step z = match step z with | some (.inl z') => loopO step z' | some (.inr r) => some r | none => none := by
  cases hs : step z with
  | none =>
    cases hl : loopO step z with
    | none => rfl
    | some r =>
      obtain ⟨n, hn⟩ := loopO_some hl
      cases n with
      | zero => cases hn
      | succ n => simp only [iterO, hs] at hn; cases hn
  | some x =>
    cases x with
    | inr r => exact loopO_of (n := 1) (by simp only [iterO, hs])
    | inl z' =>
      simp only
      cases hl : loopO step z' with
      | some r =>
        obtain ⟨n, hn⟩ := loopO_some hl
        exact loopO_of (n := n + 1) (by simp only [iterO, hs]; exact hn)
      | none =>
        cases hl' : loopO step z with
        | none => rfl
        | some r =>
          obtain ⟨n, hn⟩ := loopO_some hl'
          cases n with
          | zero => cases hn
          | succ n =>
            simp only [iterO, hs] at hn
            rw [loopO_of hn] at hl; cases hl
theorem loopO_inl {σ ρ : Type} {step : σ → Option (σ ⊕ ρ)} {z z' : σ} (h : step z = some (.inl z')) : loopO step z = loopO step z' := by rw [loopO_eq, h]
theorem loopO_inr {σ ρ : Type} {step : σ → Option (σ ⊕ ρ)} {z : σ} {r : ρ} (h : step z = some (.inr r)) : loopO step z = some r := by rw [loopO_eq, h]
section
variable {P : Program} {V : Env} {w0 : World} {I0 : Imm} {n : Nat} {Q : Exit → St → Prop} {s s' : St} {x y : Code}
theorem kcong {K : St → Prop} (h : s = s') (k : K s') : K s := h ▸ k
theorem AWp.seqJ (J0 : St → Prop) (h : ∀ J : St → Prop, (∀ s', J0 s' → J s') → AWp P w0 I0 n x s (thenQ J Q)) (k : ∀ s', J0 s' → AWp P w0 I0 n y s' Q) : AWp P w0 I0 n (x.seq y) s Q :=
  AWp.seq (AWp.mono (h J0 fun _ h => h) fun e s' hq => by cases e <;> first | exact k s' hq | exact hq)
theorem AWp.seqG (h : ∀ K : St → Prop, (∀ s', AWp P w0 I0 n y s' Q → K s') → AWp P w0 I0 n x s (thenQ K Q)) : AWp P w0 I0 n (x.seq y) s Q :=
  AWp.seq (h _ fun _ h => h)
theorem AWp.mid {t : St} (h : ∀ R : Exit → St → Prop, (∀ s', Sub s' t → R .normal s') → AWp P w0 I0 n x s R) (k : Q .normal t) : AWp P w0 I0 n x s Q := fun a w hr =>
  Code.wpIn_mono (fun e a' w' ⟨s', ⟨he, hs⟩, h2⟩ => by
    subst he
    exact ⟨t, k, hs _ _ _ _ _ h2⟩) (h (fun e s' => e = .normal ∧ Sub s' t) (fun _ h => ⟨rfl, h⟩) a w hr)
theorem AWp.regF (hV : VOk P V) (md : Way) (live : List Nat) {id : Nat} {ops : List Oper} (h : ∀ K : St → Prop, (∀ s', Q .normal s' → K s') → evalSeq V n ops md ops s (fun s' => K ⟨Eva.restr live s'.t, s'.l⟩)) : AWp P w0 I0 n (Code.region id ops.toArray false) s Q := fun a w hr => by
  refine wpIn_region_lit (evalSeq_ok (Q := fun e a' w' => ∃ s', Q e s' ∧ Rel w0 I0 n s' a' w') (K := fun s' => Q .normal ⟨Eva.restr live s'.t, s'.l⟩) hV (fun s a w h1 h2 => ?_) ops s a w hr (h _ fun _ h => h))
  exact ⟨_, h1, Sub.restr live _ _ _ _ _ h2⟩
theorem AWp.regDF (hV : VOk P V) (hm : P.follows .mixedOrders = true) (md : Way) (n1 : Nat) (live : List Nat) {id : Nat} {ops : List Oper} (hd : drawOk ops n1 = true)
    (h : ∀ K : St → Prop, (∀ s', Q .normal s' → K s') → evalPure V n ops md s.l (ops.take n1) 0 s.t [] fun tm news => evalSeq V n ops md (ops.drop n1) ⟨tm, s.l ++ news.map (·.2)⟩ (fun s' => K ⟨Eva.restr live s'.t, s'.l⟩)) : AWp P w0 I0 n (Code.region id ops.toArray true) s Q := fun _ _ hr =>
  evalDraw_ok' (Q := fun e a' w' => ∃ s', Q e s' ∧ Rel w0 I0 n s' a' w') (K := fun s' => Q .normal ⟨Eva.restr live s'.t, s'.l⟩) hV hm (fun _ _ _ h1 h2 => ⟨_, h1, Sub.restr live _ _ _ _ _ h2⟩) n1 hd hr (h _ fun _ h => h)
theorem AWp.regDFF (hV : VOk P V) (hm : P.follows .mixedOrders = true) (md : Way) (n1 : Nat) (F : List Nat) (live : List Nat) {id : Nat} {ops : List Oper} (hd : drawOk2 ops n1 F = true)
    (h : ∀ K : St → Prop, (∀ s', Q .normal s' → K s') → evalPure V n ops md s.l (ops.take n1) 0 s.t [] fun tm news => evalSeq V n ops md (ops.drop n1) ⟨tm, s.l ++ news.map (·.2)⟩ (fun s' => K ⟨Eva.restr live s'.t, s'.l⟩)) : AWp P w0 I0 n (Code.region id ops.toArray true) s Q := fun _ _ hr =>
  evalDraw_ok2 (Q := fun e a' w' => ∃ s', Q e s' ∧ Rel w0 I0 n s' a' w') (K := fun s' => Q .normal ⟨Eva.restr live s'.t, s'.l⟩) hV hm (fun _ _ _ h1 h2 => ⟨_, h1, Sub.restr live _ _ _ _ _ h2⟩) n1 F hd hr (h _ fun _ h => h)
theorem AWp.rS (hV : VOk P V) (md : Way) (live : List Nat) {id : Nat} {ops : List Oper} (h : ∀ K : St → Prop, (∀ s', AWp P w0 I0 n y s' Q → K s') → evalSeq V n ops md ops s (fun s' => K ⟨Eva.restr live s'.t, s'.l⟩)) : AWp P w0 I0 n ((Code.region id ops.toArray false).seq y) s Q :=
  AWp.seqG fun _ hk => AWp.regF hV md live fun _ hk' => h _ fun s' ha => hk' s' (hk s' ha)
theorem AWp.rD (hV : VOk P V) (hm : P.follows .mixedOrders = true) (md : Way) (n1 : Nat) (live : List Nat) {id : Nat} {ops : List Oper} (hd : drawOk ops n1 = true)
    (h : ∀ K : St → Prop, (∀ s', AWp P w0 I0 n y s' Q → K s') → evalPure V n ops md s.l (ops.take n1) 0 s.t [] fun tm news => evalSeq V n ops md (ops.drop n1) ⟨tm, s.l ++ news.map (·.2)⟩ (fun s' => K ⟨Eva.restr live s'.t, s'.l⟩)) : AWp P w0 I0 n ((Code.region id ops.toArray true).seq y) s Q :=
  AWp.seqG fun _ hk => AWp.regDF hV hm md n1 live hd fun _ hk' => h _ fun s' ha => hk' s' (hk s' ha)
theorem AWp.rDF (hV : VOk P V) (hm : P.follows .mixedOrders = true) (md : Way) (n1 : Nat) (F : List Nat) (live : List Nat) {id : Nat} {ops : List Oper} (hd : drawOk2 ops n1 F = true)
    (h : ∀ K : St → Prop, (∀ s', AWp P w0 I0 n y s' Q → K s') → evalPure V n ops md s.l (ops.take n1) 0 s.t [] fun tm news => evalSeq V n ops md (ops.drop n1) ⟨tm, s.l ++ news.map (·.2)⟩ (fun s' => K ⟨Eva.restr live s'.t, s'.l⟩)) : AWp P w0 I0 n ((Code.region id ops.toArray true).seq y) s Q :=
  AWp.seqG fun _ hk => AWp.regDFF hV hm md n1 F live hd fun _ hk' => h _ fun s' ha => hk' s' (hk s' ha)
theorem evalPure_mono {ops : List Oper} {md : Way} {l0 : List AO} {K K' : Tm → List (Nat × AO) → Prop} (hk : ∀ tm news, K tm news → K' tm news) : ∀ (r : List Oper) (k : Nat) (tm : Tm) (news : List (Nat × AO)), evalPure V n ops md l0 r k tm news K → evalPure V n ops md l0 r k tm news K'
  | [], _, _, _, h => hk _ _ h
  | o :: r, k, tm, news, h => by
    simp only [evalPure] at h ⊢
    split at h
    · exact h
    · cases md with
      | none =>
        simp only at h ⊢
        obtain ⟨h1, h2, h3⟩ := h
        refine ⟨h1, h2, ?_⟩
        split at h3
        · exact evalPure_mono hk r _ _ _ h3
        · exact evalPure_mono hk r _ _ _ h3
        · exact evalPure_mono hk r _ _ _ h3
        · exact h3
      | some sk =>
        simp only at h ⊢
        split at h
        · rename_i hs
          rw [if_pos hs]
          exact ⟨h.1, h.2.1, h.2.2.1, evalPure_mono hk r _ _ _ h.2.2.2⟩
        · rename_i hs
          rw [if_neg hs]
          obtain ⟨h0, h1, h2, h3⟩ := h
          refine ⟨h0, h1, h2, ?_⟩
          split at h3
          · exact evalPure_mono hk r _ _ _ h3
          · exact evalPure_mono hk r _ _ _ h3
          · exact h3
def coversW (ops : List Oper) (live : List Nat) : List Oper → List Nat → Bool
  | [], W => live.all fun x => W.contains x
  | o :: r, W => ((readsOf ops o).all fun x => W.contains x) && coversW ops live r (match o.dst with | some d => d :: W | none => W)
theorem run_cover {ops : List Oper} {live : List Nat} {K : St → Prop} : ∀ {r : List Oper} {W : List Nat} {s1 s2 : St}, coversW ops live r W = true → s1.l = s2.l → (∀ x ∈ W, get s1.t x = get s2.t x) →
    Run P n ops r s1 (fun s' => K ⟨Eva.restr live s'.t, s'.l⟩) → Run P n ops r s2 (fun s' => K ⟨Eva.restr live s'.t, s'.l⟩)
  | [], W, s1, s2, hc, hl, hw, h => by
    simp only [coversW, List.all_eq_true, List.contains_iff_mem] at hc
    simp only [Run] at h ⊢
    have : Eva.restr live s1.t = Eva.restr live s2.t := List.map_congr_left fun x hx => by rw [hw x (hc x hx)]
    rw [← this, ← hl]; exact h
  | o :: r, W, s1, s2, hc, hl, hw, h => by
    simp only [coversW, Bool.and_eq_true, List.all_eq_true, List.contains_iff_mem] at hc
    have h : StepR P n ops o s1 _ := h
    show StepR P n ops o s2 _
    have h2 : StepR P n ops o s2 fun u l' => Run P n ops r ⟨putT s1.t o.dst u, l'⟩ fun s' => K ⟨Eva.restr live s'.t, s'.l⟩ := fun st hsl hsr w0 I0 a w Q Kn hr hK =>
      h st (hsl.trans hl.symm) (fun x hx => (hsr x hx).trans (hw x (hc.1 x hx)).symm) w0 I0 a w Q Kn hr fun u l' a' w' k hv => hK u l' a' w' k fun e => by rw [← hl]; exact hv e
    refine h2.mono fun u l' h' => run_cover (s1 := ⟨putT s1.t o.dst u, l'⟩) (s2 := ⟨putT s2.t o.dst u, l'⟩) hc.2 rfl (fun x hx => ?_) h'
    cases hd : o.dst with
    | none => rw [hd] at hx; simp only [putT]; exact hw x hx
    | some d =>
      rw [hd] at hx
      simp only [putT, get]
      by_cases e : d = x
      · rw [if_pos e, if_pos e]
      · rw [if_neg e, if_neg e]
        rcases List.mem_cons.1 hx with h3 | h3
        · exact absurd h3.symm e
        · exact hw x h3
theorem restr_at (live : List Nat) (t : Tm) {k : Nat} (h : k ∈ live) : get (Eva.restr live t) k = get t k := by
  induction live with
  | nil => cases h
  | cons j live ih =>
    simp only [Eva.restr, List.map_cons, get]
    by_cases e : j = k
    · rw [if_pos e, e]
    · rw [if_neg e]
      rcases List.mem_cons.1 h with h1 | h1
      · exact absurd h1.symm e
      · exact ih h1
def RunAt (P : Program) (n : Nat) (ops : List Oper) (k : Nat) (live : List Nat) (s : St) (K : St → Prop) : Prop := Run P n ops (ops.drop k) s fun s' => K ⟨Eva.restr live s'.t, s'.l⟩
theorem RunAt.cut {k : Nat} {ops : List Oper} {live : List Nat} {K : St → Prop} (L : List Nat) (hc : coversW ops live (ops.drop k) L = true) (h : RunAt P n ops k live ⟨Eva.restr L s.t, s.l⟩ K) : RunAt P n ops k live s K :=
  run_cover (s1 := ⟨Eva.restr L s.t, s.l⟩) hc rfl (fun x hx => restr_at L s.t hx) h
theorem RunAt.seq (hV : VOk P V) (md : Way) {k : Nat} (k2 : Nat) (L : List Nat) {ops : List Oper} {live : List Nat} {K : St → Prop} (hk : k ≤ k2) (hc : coversW ops live (ops.drop k2) L = true)
    (h : ∀ K1 : St → Prop, (∀ s', RunAt P n ops k2 live s' K → K1 s') → evalSeq V n ops md ((ops.take k2).drop k) s (fun s' => K1 ⟨Eva.restr L s'.t, s'.l⟩)) : RunAt P n ops k live s K := by
  unfold RunAt
  have e : ops.drop k = (ops.take k2).drop k ++ ops.drop k2 := by
    conv => lhs; rw [← List.take_append_drop k2 ops]
    rw [List.drop_append]
    congr 1
    by_cases hl : k2 ≤ ops.length
    · rw [List.length_take, Nat.min_eq_left hl, Nat.sub_eq_zero_of_le hk]; rfl
    · rw [List.drop_eq_nil_of_le (show ops.length ≤ k2 by omega)]; simp
  rw [e]
  exact Run.seq hV (h (fun s' => RunAt P n ops k2 live s' K) (fun _ h => h) |> evalSeq_mono (fun s' hs' => RunAt.cut (s := s') L hc hs') _ _)
theorem RunAt.fin (hV : VOk P V) (md : Way) {k : Nat} {ops : List Oper} {live : List Nat} {K : St → Prop} (h : evalSeq V n ops md (ops.drop k) s (fun s' => K ⟨Eva.restr live s'.t, s'.l⟩)) : RunAt P n ops k live s K := Run.of hV h
theorem RunAt.call (hV : VOk P V) {k : Nat} {ops : List Oper} {live : List Nat} {K : St → Prop} {o : Oper} (g : FuncId) (ts : List T) {pc : PC} (ho : ops[k]? = some o) (hg : guardPc ops s.t o.guard = some pc) (hp : holds pc) (hd : dstOk n o.dst = true) (hc : cloOf V.E (evT s.t) o = some (g, ts))
    (h : ∀ K2 : T → List AO → Prop, (∀ u l', RunAt P n ops (k + 1) live ⟨putT s.t o.dst u, l'⟩ K → K2 u l') → SemC P g ts s.l K2) : RunAt P n ops k live s K := by
  unfold RunAt
  have hk := (List.getElem?_eq_some_iff.1 ho).1
  rw [List.drop_eq_getElem_cons hk, (List.getElem?_eq_some_iff.1 ho).2]
  exact Run.call hV hg hp hd hc (h _ fun _ _ h => h)
theorem AWp.regC (hV : VOk P V) (live : List Nat) {id : Nat} {ops : List Oper} (h : ∀ K : St → Prop, (∀ s', Q .normal s' → K s') → RunAt P n ops 0 live s K) : AWp P w0 I0 n (Code.region id ops.toArray false) s Q := fun a w hr => by
  refine wpIn_region_lit (Run.wp (Q := fun e a' w' => ∃ s', Q e s' ∧ Rel w0 I0 n s' a' w') (K := fun s' => Q .normal ⟨Eva.restr live s'.t, s'.l⟩) hV (fun s a w h1 h2 => ?_) ops s a w hr (h _ fun _ h => h))
  exact ⟨_, h1, Sub.restr live _ _ _ _ _ h2⟩
theorem AWp.rC (hV : VOk P V) (live : List Nat) {id : Nat} {ops : List Oper} (h : ∀ K : St → Prop, (∀ s', AWp P w0 I0 n y s' Q → K s') → RunAt P n ops 0 live s K) : AWp P w0 I0 n ((Code.region id ops.toArray false).seq y) s Q :=
  AWp.seqG fun _ hk => AWp.regC hV live fun _ hk' => h _ fun s' ha => hk' s' (hk s' ha)
theorem AWp.regDC (hV : VOk P V) (hm : P.follows .mixedOrders = true) (md : Way) (n1 : Nat) (F : List Nat) (L live : List Nat) {id : Nat} {ops : List Oper} (hd : drawOk2 ops n1 F = true) (hc : coversW ops live (ops.drop n1) L = true)
    (h : ∀ K : St → Prop, (∀ s', Q .normal s' → K s') → ∀ K1 : St → Prop, (∀ s', RunAt P n ops n1 live s' K → K1 s') → evalPure V n ops md s.l (ops.take n1) 0 s.t [] fun tm news => K1 ⟨Eva.restr L tm, s.l ++ news.map (·.2)⟩) : AWp P w0 I0 n (Code.region id ops.toArray true) s Q := fun _ _ hr =>
  evalDraw_run (Q := fun e a' w' => ∃ s', Q e s' ∧ Rel w0 I0 n s' a' w') (K := fun s' => Q .normal ⟨Eva.restr live s'.t, s'.l⟩) hV hm (fun _ _ _ h1 h2 => ⟨_, h1, Sub.restr live _ _ _ _ _ h2⟩) n1 F hd hr
    (evalPure_mono (fun tm news hk => run_cover (s1 := ⟨Eva.restr L tm, s.l ++ news.map (·.2)⟩) (s2 := ⟨tm, s.l ++ news.map (·.2)⟩) hc rfl (fun x hx => restr_at L tm hx) hk) _ _ _ _ (h _ (fun _ h => h) (fun s' => RunAt P n ops n1 live s' fun s' => Q .normal s') fun _ h => h))
theorem AWp.rDC (hV : VOk P V) (hm : P.follows .mixedOrders = true) (md : Way) (n1 : Nat) (F : List Nat) (L live : List Nat) {id : Nat} {ops : List Oper} (hd : drawOk2 ops n1 F = true) (hc : coversW ops live (ops.drop n1) L = true)
    (h : ∀ K : St → Prop, (∀ s', AWp P w0 I0 n y s' Q → K s') → ∀ K1 : St → Prop, (∀ s', RunAt P n ops n1 live s' K → K1 s') → evalPure V n ops md s.l (ops.take n1) 0 s.t [] fun tm news => K1 ⟨Eva.restr L tm, s.l ++ news.map (·.2)⟩) : AWp P w0 I0 n ((Code.region id ops.toArray true).seq y) s Q :=
  AWp.seqG fun _ hk => AWp.regDC hV hm md n1 F L live hd hc fun _ hk' => h _ fun s' ha => hk' s' (hk s' ha)
theorem AWp.regDP (hV : VOk P V) (hm : P.follows .mixedOrders = true) (md : Way) (p : List Nat) (n1 : Nat) (F : List Nat) (live : List Nat) {id : Nat} {ops : List Oper} (hp : permOk p ops.length = true) (hd : drawOk3 (permOps p ops) n1 F = true) (hptr : floatPtr s.t (permOps p ops) n1 F = true)
    (h : ∀ K : St → Prop, (∀ s', Q .normal s' → K s') → evalPure V n (permOps p ops) md s.l ((permOps p ops).take n1) 0 s.t [] fun tm news => evalSeq V n (permOps p ops) md ((permOps p ops).drop n1) ⟨tm, s.l ++ news.map (·.2)⟩ (fun s' => K ⟨Eva.restr live s'.t, s'.l⟩)) : AWp P w0 I0 n (Code.region id ops.toArray true) s Q := fun _ _ hr =>
  evalDraw_ok3 (Q := fun e a' w' => ∃ s', Q e s' ∧ Rel w0 I0 n s' a' w') (K := fun s' => Q .normal ⟨Eva.restr live s'.t, s'.l⟩) hV hm (fun _ _ _ h1 h2 => ⟨_, h1, Sub.restr live _ _ _ _ _ h2⟩) p n1 F hp hd hptr hr (h _ fun _ h => h)
theorem AWp.rDP (hV : VOk P V) (hm : P.follows .mixedOrders = true) (md : Way) (p : List Nat) (n1 : Nat) (F : List Nat) (live : List Nat) {id : Nat} {ops : List Oper} (hp : permOk p ops.length = true) (hd : drawOk3 (permOps p ops) n1 F = true) (hptr : floatPtr s.t (permOps p ops) n1 F = true)
    (h : ∀ K : St → Prop, (∀ s', AWp P w0 I0 n y s' Q → K s') → evalPure V n (permOps p ops) md s.l ((permOps p ops).take n1) 0 s.t [] fun tm news => evalSeq V n (permOps p ops) md ((permOps p ops).drop n1) ⟨tm, s.l ++ news.map (·.2)⟩ (fun s' => K ⟨Eva.restr live s'.t, s'.l⟩)) : AWp P w0 I0 n ((Code.region id ops.toArray true).seq y) s Q :=
  AWp.seqG fun _ hk => AWp.regDP hV hm md p n1 F live hp hd hptr fun _ hk' => h _ fun s' ha => hk' s' (hk s' ha)
theorem AWp.loopO {σ ρ : Type} (F : σ → St) (step : σ → Option (σ ⊕ ρ)) (z0 : σ) {out : ρ} (h : Eva.loopO step z0 = some out) (hs : Sub s (F z0))
    (round : ∀ z o (K : St → Prop), step z = some o → (∀ r, o = .inr r → r = out) → (∀ s' z', o = .inl z' → Sub s' (F z') → K s') → AWp P w0 I0 n x (F z) (thenQ K Q)) : AWp P w0 I0 n (.loop x) s Q := by
  obtain ⟨k, hk⟩ := loopO_some h
  refine AWp.loop (X := Nat × σ) (fun z => F z.2) (fun z => iterO step z.1 z.2 = some out) (fun z => z.1) (k, z0) hk hs fun z hz => ?_
  obtain ⟨k, z⟩ := z
  cases k with
  | zero => cases hz
  | succ k =>
    simp only [iterO] at hz
    cases ho : step z with
    | none => rw [ho] at hz; cases hz
    | some o =>
      rw [ho] at hz
      refine AWp.mono (round z o (fun s' => ∃ z', o = .inl z' ∧ Sub s' (F z')) ho (fun r hr => by subst hr; simp only [Option.some.injEq] at hz; exact hz) fun s' z' h1 h2 => ⟨z', h1, h2⟩) fun e s' hq => ?_
      cases e <;> first | exact hq | skip
      obtain ⟨z', rfl, hz'⟩ := hq
      exact ⟨(k, z'), hz, by simp, hz'⟩
theorem PureCon.ofQ {f : FuncId} {fn : Func} {c : Code} {ds : List D} {r : D} (hV : VOk P V) (hf : P.funcs[f]? = some fn) (hb : fn.body = some c) (hn : ds.length ≤ fn.ntmps)
    (h : ∀ (R : Rnd), R.r = none → ∀ w0 I0 (Q : Exit → St → Prop), (∀ e s, (e = .ret ∨ e = .normal) → retOk V s fn.results.toList r → Q e s) → AWp P w0 I0 fn.ntmps c ⟨startT 0 ds, []⟩ Q) : PureCon P f ds r :=
  PureCon.of hV hf hb hn fun R hR w0 I0 => h R hR w0 I0 _ fun _ _ h1 h2 => ⟨h1, h2⟩
end
section
theorem Sub.toData {s : St} (j : Nat) {d : D} {l' : List AO} (h : toD s.l (get s.t j) = some (d, l')) : Sub s ⟨(j, .d d) :: s.t, l'⟩ := by
  intro w0 I0 n a w hr
  obtain ⟨h1, I, m, h3, h2, h4⟩ := hr
  obtain ⟨J, le, r1, hrd, _⟩ := toD_ok h3 (h4 j) h
  refine ⟨h1, J, m, r1, h2.mono le.imm, fun k => ?_⟩
  simp only [get]
  by_cases hk : j = k
  · subst hk; rw [if_pos rfl]; exact .d _ _ hrd
  · rw [if_neg hk]; exact (h4 k).mono le
end
def opD (o : Option D) : D := o.getD .nilp
def specO0 (f : Option D) : Spec := fun ds => match ds with | [] => some (opD f, f.isSome = true) | _ => none
def specO1 {α : Type} [Enc α] (f : α → Option D) : Spec := fun ds => match ds with | [a] => some (opD (f (dec a)), enc (dec a : α) = a ∧ (f (dec a)).isSome = true) | _ => none
def specO2 {α β : Type} [Enc α] [Enc β] (f : α → β → Option D) : Spec := fun ds => match ds with | [a, b] => some (opD (f (dec a) (dec b)), enc (dec a : α) = a ∧ enc (dec b : β) = b ∧ (f (dec a) (dec b)).isSome = true) | _ => none
def specO3 {α β γ : Type} [Enc α] [Enc β] [Enc γ] (f : α → β → γ → Option D) : Spec := fun ds => match ds with | [a, b, c] => some (opD (f (dec a) (dec b) (dec c)), enc (dec a : α) = a ∧ enc (dec b : β) = b ∧ enc (dec c : γ) = c ∧ (f (dec a) (dec b) (dec c)).isSome = true) | _ => none
def specO4 {α β γ δ : Type} [Enc α] [Enc β] [Enc γ] [Enc δ] (f : α → β → γ → δ → Option D) : Spec := fun ds => match ds with | [a, b, c, d] => some (opD (f (dec a) (dec b) (dec c) (dec d)), enc (dec a : α) = a ∧ enc (dec b : β) = b ∧ enc (dec c : γ) = c ∧ enc (dec d : δ) = d ∧ (f (dec a) (dec b) (dec c) (dec d)).isSome = true) | _ => none
section
variable {P : Program} {g : FuncId}
theorem opD_some {o : Option D} (h : o.isSome = true) : o = some (opD o) := by cases o <;> first | rfl | cases h
theorem SpecOk.ofO0 {f : Option D} (he : Enters P g) (h : ∀ r, f = some r → PureCon P g [] r) : SpecOk P g (specO0 f) := ⟨he, fun ds r ob hs hob => by
  unfold specO0 at hs; split at hs
  · cases hs; exact h _ (opD_some hob)
  · cases hs⟩
theorem SpecOk.ofO1 {α : Type} [Enc α] {f : α → Option D} (he : Enters P g) (h : ∀ a r, f a = some r → PureCon P g [enc a] r) : SpecOk P g (specO1 f) := ⟨he, fun ds r ob hs hob => by
  unfold specO1 at hs; split at hs
  · cases hs
    have := h _ _ (opD_some hob.2); rw [hob.1] at this; exact this
  · cases hs⟩
theorem SpecOk.ofO2 {α β : Type} [Enc α] [Enc β] {f : α → β → Option D} (he : Enters P g) (h : ∀ a b r, f a b = some r → PureCon P g [enc a, enc b] r) : SpecOk P g (specO2 f) := ⟨he, fun ds r ob hs hob => by
  unfold specO2 at hs; split at hs
  · cases hs
    have := h _ _ _ (opD_some hob.2.2); rw [hob.1, hob.2.1] at this; exact this
  · cases hs⟩
theorem SpecOk.ofO3 {α β γ : Type} [Enc α] [Enc β] [Enc γ] {f : α → β → γ → Option D} (he : Enters P g) (h : ∀ a b c r, f a b c = some r → PureCon P g [enc a, enc b, enc c] r) : SpecOk P g (specO3 f) := ⟨he, fun ds r ob hs hob => by
  unfold specO3 at hs; split at hs
  · cases hs
    have := h _ _ _ _ (opD_some hob.2.2.2); rw [hob.1, hob.2.1, hob.2.2.1] at this; exact this
  · cases hs⟩
theorem SpecOk.ofO4 {α β γ δ : Type} [Enc α] [Enc β] [Enc γ] [Enc δ] {f : α → β → γ → δ → Option D} (he : Enters P g) (h : ∀ a b c d r, f a b c d = some r → PureCon P g [enc a, enc b, enc c, enc d] r) : SpecOk P g (specO4 f) := ⟨he, fun ds r ob hs hob => by
  unfold specO4 at hs; split at hs
  · cases hs
    have := h _ _ _ _ _ (opD_some hob.2.2.2.2); rw [hob.1, hob.2.1, hob.2.2.1, hob.2.2.2.1] at this; exact this
  · cases hs⟩
end
end Go.Eva
namespace Go.Eva
open Go Go.RowKit Enc
variable [Drw] [Rnd]
def iterM {σ ρ ε : Type} (step : σ → ε → Option (σ ⊕ ρ)) : List ε → σ → Option (σ ⊕ ρ)
  | [], z => some (.inl z)
  | e :: l, z => match step z e with
    | some (.inl z') => iterM step l z'
    | some (.inr r) => some (.inr r)
    | none => none
open Classical in
noncomputable def loopM {σ ρ ε : Type} (step : σ → ε → Option (σ ⊕ ρ)) (m : List ε) (z : σ) : Option (σ ⊕ ρ) := if h : ∃ r, ∀ l, l.Perm m → iterM step l z = some r then some (Classical.choose h) else none
theorem loopM_some {σ ρ ε : Type} {step : σ → ε → Option (σ ⊕ ρ)} {m : List ε} {z : σ} {r : σ ⊕ ρ} (h : loopM step m z = some r) : ∀ l, l.Perm m → iterM step l z = some r := by
  unfold loopM at h
  split at h
  · rename_i hx
    injection h with h
    rw [← h]; exact Classical.choose_spec hx
  · cases h
theorem loopM_of {σ ρ ε : Type} {step : σ → ε → Option (σ ⊕ ρ)} {m : List ε} {z : σ} {r : σ ⊕ ρ} (h : ∀ l, l.Perm m → iterM step l z = some r) : loopM step m z = some r := by
  have hx : ∃ r, ∀ l, l.Perm m → iterM step l z = some r := ⟨r, h⟩
  unfold loopM
  rw [dif_pos hx]
  have h1 := Classical.choose_spec hx m (List.Perm.refl m)
  rw [h m (List.Perm.refl m)] at h1
  exact h1.symm
def restM {ε : Type} (done : List Nat) : Nat → List ε → List ε
  | _, [] => []
  | k, e :: l => if k ∈ done then restM done (k + 1) l else e :: restM done (k + 1) l
theorem restM_nil {ε : Type} : ∀ (k : Nat) (m : List ε), restM [] k m = m
  | _, [] => rfl
  | k, e :: l => by simp [restM, restM_nil (k + 1) l]
theorem restM_all {ε : Type} {done : List Nat} : ∀ {k : Nat} {m : List ε}, (∀ i, i < m.length → k + i ∈ done) → restM done k m = []
  | _, [], _ => rfl
  | k, e :: l, h => by
    have h0 := h 0 (by simp)
    simp only [Nat.add_zero] at h0
    simp only [restM, if_pos h0]
    exact restM_all fun i hi => by have := h (i + 1) (by simp; omega); rwa [show k + (i + 1) = k + 1 + i by omega] at this
theorem restM_far {ε : Type} {done : List Nat} {j : Nat} : ∀ {k : Nat} {m : List ε}, j < k → restM (done ++ [j]) k m = restM done k m
  | _, [], _ => rfl
  | k, e :: l, h => by
    have hk : (k ∈ done ++ [j]) = (k ∈ done) := by simp; omega
    simp only [restM, hk, restM_far (show j < k + 1 by omega)]
theorem restM_one {ε : Type} {done : List Nat} : ∀ {k i : Nat} {m : List ε} {e : ε}, m[i]? = some e → k + i ∉ done → (e :: restM (done ++ [k + i]) k m).Perm (restM done k m)
  | k, i, [], e, h, _ => by simp at h
  | k, 0, x :: l, e, h, hn => by
    simp at h; subst h
    simp only [Nat.add_zero] at hn ⊢
    have : k ∈ done ++ [k] := by simp
    simp only [restM, if_pos this, if_neg hn, restM_far (Nat.lt_succ_self k)]
    exact .refl _
  | k, i + 1, x :: l, e, h, hn => by
    have ih := restM_one (k := k + 1) (i := i) (m := l) (e := e) (by simpa using h) (by rwa [show k + 1 + i = k + (i + 1) by omega])
    rw [show k + 1 + i = k + (i + 1) by omega] at ih
    have hk : (k ∈ done ++ [k + (i + 1)]) = (k ∈ done) := by simp
    simp only [restM, hk]
    split
    · exact ih
    · exact (List.Perm.swap _ _ _).trans (ih.cons _)
theorem nodup_bound {done : List Nat} {n : Nat} (hn : done.Nodup) (h : ∀ i ∈ done, i < n) : done.length ≤ n := by
  have : done.Perm ((List.range n).filter fun i => done.contains i) := (List.perm_ext_iff_of_nodup hn (List.nodup_range.filter _)).2 fun x => by simp; exact h x
  rw [this.length_eq]
  exact Nat.le_trans (List.length_filter_le _ _) (by simp)
theorem kv_get {α : Type} [Enc α] {m : List (Int × α)} {i : Nat} {kd vd : D} (hk : (m.map kE)[i]? = some kd) (hv : (m.map vE)[i]? = some vd) : ∃ e, m[i]? = some e ∧ kd = kE e ∧ vd = vE e := by
  rw [List.getElem?_map] at hk hv
  cases he : m[i]? with
  | none => rw [he] at hk; cases hk
  | some e => rw [he] at hk hv; simp at hk hv; exact ⟨e, rfl, hk.symm, hv.symm⟩
theorem kE_pair {α : Type} (k : Int) (v : α) : kE (k, v) = .int .i64 k := rfl
theorem vE_pair {α : Type} [Enc α] (k : Int) (v : α) : vE (k, v) = enc v := rfl
section
variable {P : Program} {V : Env} {w0 w : World} {I0 I : Imm} {m : Nat → Value} {l : List AO}
theorem next_step (hrel : WRel w0 I0 w I m l) {id : Nat} {ks vs : List D} {done : List Nat} (hl : l[id]? = some (.iter ks vs done)) {b : Nat} (hm : m id = .pointer (some ⟨b, 0, none⟩)) (ty : TypeId) :
    ((∀ i, i < ks.length → i ∈ done) ∧ (Instr.next (.pointer (some ⟨b, 0, none⟩)) false ty).run P w = .ok (.tuple #[.bool false]) w) ∨
    ∃ i key val kd vd w', ks[i]? = some kd ∧ vs[i]? = some vd ∧ i ∉ done ∧ (Instr.next (.pointer (some ⟨b, 0, none⟩)) false ty).run P w = .ok (.tuple #[.bool true, key, val]) w' ∧ Rd I key kd ∧ Rd I val vd ∧
      Le I m l I m (l.set id (.iter ks vs (done ++ [i]))) ∧ WRel w0 I0 w' I m (l.set id (.iter ks vs (done ++ [i]))) := by
  obtain ⟨b', mb, es, seen, q1, q2, q3, q4, q5, q6, q7, q8, ⟨q9, q10⟩, q11⟩ := hrel.obj id _ hl
  rw [hm] at q1; injection q1 with q1; injection q1 with q1; injection q1 with q1; subst q1
  cases mb with
  | none =>
    have he := q4.2 rfl
    have hk0 : ks.length = 0 := by rw [← q5, he]; rfl
    refine .inl ⟨fun i hi => by omega, ?_⟩
    simp [Instr.next, getObj, Sem.run_bind, Sem.run, q3, Result.andThen]
  | some mb =>
  have hh := hrel.sat.mp mb es (q4.1 mb rfl)
  have hmem : ∀ x, seen.contains x = true ↔ ∃ i ∈ done, bornAt es i = x := fun x => by
    rw [← Array.contains_toList, q9]; simp
  have hidx : ∀ (i j : Nat) (hi : i < es.1.size) (hj : j < es.1.size), es.1[i].born = es.1[j].born → i = j := fun i j hi hj h => by
    refine nodup_inj hh.2.2.1 (a := es.1[i].born) ?_ ?_
    · simp [hi]
    · simp [hj, h]
  rcases run_next_at (P := P) w ty b mb es.2 es.2 seen es.1 es.2 q3 hh.1 hh.2.1 (Nat.le_refl _) with ⟨h0, hrun⟩ | ⟨e, he, w1, hal, hrun⟩
  · refine .inl ⟨fun i hi => ?_, hrun⟩
    have hi' : i < es.1.size := by omega
    have := all_seen es.1 seen h0 es.1[i] (by simp)
    obtain ⟨j, hj, hb⟩ := (hmem _).1 this
    have hj' := q10 j hj
    rw [bornAt_get (Array.getElem?_eq_getElem hj')] at hb
    rw [hidx i j hi' hj' hb.symm]; exact hj
  · obtain ⟨hem, hes⟩ := mem_left he
    obtain ⟨i, hi, hei⟩ := List.mem_iff_getElem.1 hem
    have hi' : i < es.1.size := by simpa using hi
    have hei' : es.1[i]? = some e := by rw [Array.getElem?_eq_getElem hi']; simpa using hei
    have hnd : i ∉ done := fun hd => by
      have := (hmem e.born).2 ⟨i, hd, bornAt_get hei'⟩
      rw [this] at hes; cases hes
    have hkd : ks[i]? = some ks[i] := List.getElem?_eq_getElem (by omega)
    have hvd : vs[i]? = some vs[i] := List.getElem?_eq_getElem (by omega)
    refine .inr ⟨i, e.key, e.val, ks[i], vs[i], _, hkd, hvd, hnd, hrun, q7 i e _ hei' hkd, q8 i e _ hei' hvd, Le.setKind hl rfl rfl (by simp), ?_⟩
    have hrel1 : WRel w0 I0 w1 I m l := by rcases hal with rfl | rfl; exact hrel; exact hrel.drew
    have hr1 : w1.heap[b]? = some (.mapIter (some mb) es.2 seen es.2) := by rcases hal with rfl | rfl <;> exact q3
    have hset := MapKept.heap_set (o' := .mapIter (some mb) es.2 (seen.push e.born) es.2) hr1
    refine hrel1.turnB hl (by simp) (b := b) (by rw [hm]; rfl) q11 rfl rfl (Le.setKind hl rfl rfl (by simp)) rfl rfl rfl (Nat.le_refl _) (by simp [ChangeMaps.setBlock]) (fun k hk => hset.2 k hk) ?_
    exact ⟨b, mb, es, seen.push e.born, hm, q2, hset.1, q4, q5, q6, q7, q8, ⟨by simp [q9, bornAt_get hei'], fun j hj => by
      rcases List.mem_append.1 hj with h | h
      · exact q10 j h
      · simp at h; subst h; exact hi'⟩, q11⟩
end
section
variable {P : Program} {V : Env} {w0 : World} {I0 : Imm} {n : Nat} {Q : Exit → St → Prop} {s : St} {x y : Code}
theorem AWp.mNext (hV : VOk P V) {id E it d d2 k : Nat} {ks vs : List D} {done : List Nat} {o o2 : Oper} (ho : o.op = .next (.tmp it) false) (hd : o.dst = some d) (hg : o.guard = none) (ho2 : o2.op = .extract (.tmp d) 0) (hd2 : o2.dst = some d2) (hg2 : o2.guard = none)
    (hdn : d < n) (hdn2 : d2 < n) (hu : get s.t d = .undef) (hu2 : get s.t d2 = .undef) (hit : get s.t it = .ptr k 0) (hk : s.l[k]? = some (.iter ks vs done))
    (hA : ∀ i kd vd, ks[i]? = some kd → vs[i]? = some vd → i ∉ done → AWp P w0 I0 n y ⟨s.t, s.l.set k (.iter ks vs (done ++ [i]))⟩ Q)
    (hB : (∀ i, i < ks.length → i ∈ done) → Q (.exit E) ⟨(d2, .d (.bool false)) :: (d, .d (.tup [.bool false])) :: s.t, s.l⟩) : AWp P w0 I0 n ((Code.region id #[o, o2] false).seq ((Code.cond (.tmp d2) .skip (.exit E)).seq y)) s Q := by
  refine AWp.seq fun a w hr => ?_
  obtain ⟨r1, I, m, r3, r2, r4⟩ := hr
  have hptr := r4 it
  rw [hit] at hptr
  generalize hva : a.tmps.getD it undef = va at hptr
  cases hptr with
  | ptr _ b _ p1 p2 =>
  have hset : ∀ (v : Value) (j : Nat), (a.put (some d) v).tmps.getD j undef = if j = d then v else a.tmps.getD j undef := fun v j => by
    by_cases h : j = d
    · subst h; simp [Act.put, Array.getD_eq_getD_getElem?, r1, hdn]
    · have : d ≠ j := Ne.symm h
      simp [Act.put, Array.getD_eq_getD_getElem?, this, h]
  -- behind the step
  have after1 : ∀ (v : Value) (w' : World) (l' : List AO) (t : T), Le I m s.l I m l' → WRel w0 I0 w' I m l' → RdT I m l' v t → Rel w0 I0 n ⟨putT s.t (some d) t, l'⟩ (a.put (some d) v) w' := fun v w' l' t hle hw hv => by
    refine ⟨by simp [Act.put, r1], I, m, hw, r2, fun j => ?_⟩
    rw [hset]
    simp only [putT, get]
    by_cases h : j = d
    · subst h; simp; exact hv
    · rw [if_neg h, if_neg (Ne.symm h)]; exact (r4 j).mono hle
  refine wpIn_region_lit (l := [o, o2]) ?_
  unfold wpListIn
  have hw : Region.wanted o (yielded [o, o2].toArray a.tmps) = true := by simp [Region.wanted, hg]
  rw [if_pos hw]
  have hev : a.eval (.tmp it) = .pointer (some ⟨b, 0, none⟩) := by simpa [Act.eval, Array.getD_eq_getD_getElem?] using hva
  have two : ∀ (bb : Bool) (ds : List D) (l' : List AO) (a' : Act) (w' : World), Rel w0 I0 n ⟨putT s.t (some d) (.d (.tup (.bool bb :: ds))), l'⟩ a' w' → AWp P w0 I0 n ((Code.cond (.tmp d2) .skip (.exit E)).seq y) ⟨(d2, .d (.bool bb)) :: (d, .d (.tup (.bool bb :: ds))) :: s.t, l'⟩ Q →
      wpListIn RnF 0 P [o, o2].toArray (fun e a' w' => ∃ s', thenQ (fun s' => AWp P w0 I0 n ((Code.cond (.tmp d2) .skip (.exit E)).seq y) s' Q) Q e s' ∧ Rel w0 I0 n s' a' w') [o2] a' w' := fun bb ds l' a' w' hr' hy => by
    refine evalSeq_ok (K := fun q => q = ⟨(d2, .d (.bool bb)) :: (d, .d (.tup (.bool bb :: ds))) :: s.t, l'⟩) (md := none) hV (fun q a w hq hr => ?_) [o2] _ a' w' hr' ?_
    · subst hq; exact ⟨_, hy, hr⟩
    · simp [evalSeq, hg2, guardPc, opRes, evalOp, ho2, evT, putT, get, R.ok, holds, dstOk, hd2, hdn2, after]
  refine StepOk.wpIn (by simp [ho]) ?_
  rcases next_step (P := P) r3 hk p2 o.type with ⟨hall, hrun⟩ | ⟨i, key, val, kd, vd, w', h1, h2, h3, hrun, h5, h6, h7, h8⟩
  · have hex : (execOp a.eval o).run P w = .ok (.value (.tuple #[.bool false])) w := by unfold execOp; simp [ho, hev, hrun]
    rw [hex]
    simp only [StepOk, hd]
    refine two false [] s.l _ _ (after1 _ w s.l _ (.refl ..) r3 (.d _ _ (.tup _ _ rfl fun j u x hu hx => ?_))) ?_
    · rcases j with _ | j
      · simp at hu hx; subst hu; subst hx; exact .bool _
      · simp at hu
    · exact AWp.seq (AWp.cond (b := false) (by simp [evT, get, boolOf]) (fun h => by cases h) (fun _ => AWp.exit (hB hall)))
  · have hex : (execOp a.eval o).run P w = .ok (.value (.tuple #[.bool true, key, val])) w' := by unfold execOp; simp [ho, hev, hrun]
    rw [hex]
    simp only [StepOk, hd]
    refine two true [kd, vd] _ _ _ (after1 _ w' _ _ h7 h8 (.d _ _ (.tup _ _ rfl fun j u x hu hx => ?_))) ?_
    · rcases j with _ | _ | _ | j
      · simp at hu hx; subst hu; subst hx; exact .bool _
      · simp at hu hx; subst hu; subst hx; exact h5
      · simp at hu hx; subst hu; subst hx; exact h6
      · simp at hu
    · refine AWp.seq (AWp.cond (b := true) (by simp [evT, get, boolOf]) (fun _ => AWp.skip ?_) (fun h => by cases h))
      refine AWp.sub ?_ (hA i kd vd h1 h2 h3)
      intro w0 I0 n a w hr
      obtain ⟨h1, I, m, h3, h2, h4⟩ := hr
      refine ⟨h1, I, m, h3, h2, fun j => ?_⟩
      have := h4 j
      simp only [get] at this
      by_cases e2 : d2 = j
      · subst e2; rw [hu2]; exact .undef _
      · rw [if_neg e2] at this
        by_cases e1 : d = j
        · subst e1; rw [hu]; exact .undef _
        · rw [if_neg e1] at this; exact this
theorem AWp.loopM {σ ρ α : Type} [Enc α] (mm : List (Int × α)) (F : List Nat → σ → St) (step : σ → Int × α → Option (σ ⊕ ρ)) (z0 : σ) {out : σ ⊕ ρ} (h : Eva.loopM step mm z0 = some out) (hs : Sub s (F [] z0))
    (round : ∀ (done : List Nat) (z : σ) (K : St → Prop), ((∀ i, i < mm.length → i ∈ done) → out = .inl z) → (∀ i e, mm[i]? = some e → i ∉ done → ∃ o, step z e = some o ∧ (∀ r, o = .inr r → out = .inr r) ∧ ∀ s' z', o = .inl z' → Sub s' (F (done ++ [i]) z') → K s') →
      AWp P w0 I0 n x (F done z) (thenQ K Q)) : AWp P w0 I0 n (.loop x) s Q := by
  have h0 := loopM_some h
  refine AWp.loop (X := List Nat × σ) (fun z => F z.1 z.2) (fun z => z.1.Nodup ∧ (∀ i ∈ z.1, i < mm.length) ∧ ∀ l, l.Perm (restM z.1 0 mm) → iterM step l z.2 = some out) (fun z => mm.length - z.1.length) ([], z0) ⟨by simp, by simp, fun l hl => h0 l (by rwa [restM_nil] at hl)⟩ hs fun z hz => ?_
  obtain ⟨done, z⟩ := z
  obtain ⟨hn, hb, hp⟩ := hz
  refine round done z _ (fun hall => ?_) (fun i e he hi => ?_)
  · have := hp [] (by rw [restM_all fun i hi => by simpa using hall i hi])
    simp only [iterM] at this
    injection this with this; exact this.symm
  · have hone := restM_one (done := done) (k := 0) (i := i) (m := mm) he (by simpa using hi)
    simp only [Nat.zero_add] at hone
    have hl : ∀ l, l.Perm (restM (done ++ [i]) 0 mm) → iterM step (e :: l) z = some out := fun l hl => hp _ ((hl.cons e).trans hone)
    have h1 := hl _ (.refl _)
    simp only [iterM] at h1 hl
    have hil : i < mm.length := (List.getElem?_eq_some_iff.1 he).1
    cases hst : step z e with
    | none => rw [hst] at h1; cases h1
    | some o =>
      refine ⟨o, rfl, fun r hr => ?_, fun s' z' hz hs' => ⟨(done ++ [i], z'), ⟨?_, ?_, fun l hl' => ?_⟩, ?_, hs'⟩⟩
      · subst hr; rw [hst] at h1; injection h1 with h1; exact h1.symm
      · rw [List.nodup_append]; exact ⟨hn, by simp, fun a ha b hb' => by simp at hb'; subst hb'; exact fun e => hi (e ▸ ha)⟩
      · intro j hj
        rcases List.mem_append.1 hj with h | h
        · exact hb j h
        · simp at h; subst h; exact hil
      · have := hl l hl'
        rw [hst, hz] at this; exact this
      · have := nodup_bound (done := done ++ [i]) (n := mm.length) (by rw [List.nodup_append]; exact ⟨hn, by simp, fun a ha b hb' => by simp at hb'; subst hb'; exact fun e => hi (e ▸ ha)⟩) (fun j hj => by
          rcases List.mem_append.1 hj with h | h
          · exact hb j h
          · simp at h; subst h; exact hil)
        simp at this ⊢; omega
theorem AWp.loopP {σ ρ α : Type} [Enc α] (mm : List (Int × α)) (F : List Nat → σ → St) (step : σ → Int × α → Option (σ ⊕ ρ)) (z0 : σ) (Good : σ ⊕ ρ → Prop) (h : ∀ l, l.Perm mm → ∃ out, iterM step l z0 = some out ∧ Good out) (hs : Sub s (F [] z0))
    (round : ∀ (done : List Nat) (z : σ) (K : St → Prop), ((∀ i, i < mm.length → i ∈ done) → Good (.inl z)) → (∀ i e, mm[i]? = some e → i ∉ done → ∃ o, step z e = some o ∧ (∀ r, o = .inr r → Good (.inr r)) ∧ ∀ s' z', o = .inl z' → Sub s' (F (done ++ [i]) z') → K s') →
      AWp P w0 I0 n x (F done z) (thenQ K Q)) : AWp P w0 I0 n (.loop x) s Q := by
  refine AWp.loop (X := List Nat × σ) (fun z => F z.1 z.2) (fun z => z.1.Nodup ∧ (∀ i ∈ z.1, i < mm.length) ∧ ∀ l, l.Perm (restM z.1 0 mm) → ∃ out, iterM step l z.2 = some out ∧ Good out) (fun z => mm.length - z.1.length) ([], z0) ⟨by simp, by simp, fun l hl => h l (by rwa [restM_nil] at hl)⟩ hs fun z hz => ?_
  obtain ⟨done, z⟩ := z
  obtain ⟨hn, hb, hp⟩ := hz
  refine round done z _ (fun hall => ?_) (fun i e he hi => ?_)
  · obtain ⟨out, this, hgood⟩ := hp [] (by rw [restM_all fun i hi => by simpa using hall i hi])
    simp only [iterM] at this
    injection this with this; rw [this]; exact hgood
  · have hone := restM_one (done := done) (k := 0) (i := i) (m := mm) he (by simpa using hi)
    simp only [Nat.zero_add] at hone
    have hl : ∀ l, l.Perm (restM (done ++ [i]) 0 mm) → ∃ out, iterM step (e :: l) z = some out ∧ Good out := fun l hl => hp _ ((hl.cons e).trans hone)
    obtain ⟨out1, h1, hgood1⟩ := hl _ (.refl _)
    simp only [iterM] at h1 hl
    have hil : i < mm.length := (List.getElem?_eq_some_iff.1 he).1
    cases hst : step z e with
    | none => rw [hst] at h1; cases h1
    | some o =>
      refine ⟨o, rfl, fun r hr => ?_, fun s' z' hz hs' => ⟨(done ++ [i], z'), ⟨?_, ?_, fun l hl' => ?_⟩, ?_, hs'⟩⟩
      · subst hr; rw [hst] at h1; injection h1 with h1; rw [h1]; exact hgood1
      · rw [List.nodup_append]; exact ⟨hn, by simp, fun a ha b hb' => by simp at hb'; subst hb'; exact fun e => hi (e ▸ ha)⟩
      · intro j hj
        rcases List.mem_append.1 hj with h | h
        · exact hb j h
        · simp at h; subst h; exact hil
      · have := hl l hl'
        rw [hst, hz] at this; exact this
      · have := nodup_bound (done := done ++ [i]) (n := mm.length) (by rw [List.nodup_append]; exact ⟨hn, by simp, fun a ha b hb' => by simp at hb'; subst hb'; exact fun e => hi (e ▸ ha)⟩) (fun j hj => by
          rcases List.mem_append.1 hj with h | h
          · exact hb j h
          · simp at h; subst h; exact hil)
        simp at this ⊢; omega
open Classical in
noncomputable def allM {ε ρ : Type} (m : List ε) (f : List ε → Option ρ) : Option ρ := if h : ∃ r, ∀ l, l.Perm m → f l = some r then some (Classical.choose h) else none
theorem allM_some {ε ρ : Type} {m : List ε} {f : List ε → Option ρ} {r : ρ} (h : allM m f = some r) : ∀ l, l.Perm m → f l = some r := by
  unfold allM at h
  split at h
  · rename_i hx
    injection h with h
    rw [← h]; exact Classical.choose_spec hx
  · cases h
theorem allM_of {ε ρ : Type} {m : List ε} {f : List ε → Option ρ} {r : ρ} (h : ∀ l, l.Perm m → f l = some r) : allM m f = some r := by
  have hx : ∃ r, ∀ l, l.Perm m → f l = some r := ⟨r, h⟩
  unfold allM
  rw [dif_pos hx]
  have h1 := Classical.choose_spec hx m (List.Perm.refl m)
  rw [h m (List.Perm.refl m)] at h1
  exact h1.symm
end
end Go.Eva
namespace Go.Eva
open Go Go.RowKit
variable [Drw] [Rnd]
def closT : T → Option (FuncId × List T)
  | .clo g ts => some (g, ts)
  | .d (.fn g) => some (g, [])
  | .d (.clo g ds) => some (g, ds.map .d)
  | _ => none
theorem closT_ok {I : Imm} {m : Nat → Value} {l : List AO} {v : Value} {t : T} {g : FuncId} {ts : List T} (h : RdT I m l v t) (hc : closT t = some (g, ts)) :
    ∃ vs : Array Value, v = .func (.func g) #[] vs ∧ vs.size = ts.length ∧ ∀ (i : Nat) u x, vs[i]? = some u → ts[i]? = some x → RdT I m l u x := by
  unfold closT at hc
  split at hc
  · injection hc with hc; injection hc with h1 h2; subst h1; subst h2
    cases h with
    | clo _ vs _ q1 q2 => exact ⟨vs, rfl, q1, q2⟩
  · injection hc with hc; injection hc with h1 h2; subst h1; subst h2
    have := rdD h; cases this
    exact ⟨#[], rfl, rfl, by simp⟩
  · injection hc with hc; injection hc with h1 h2; subst h1; subst h2
    have := rdD h
    cases this with
    | clo _ vs _ q1 q2 =>
      refine ⟨vs, rfl, by simpa using q1, fun i u x hu hx => ?_⟩
      rw [List.getElem?_map] at hx
      rename_i ds
      cases hd : ds[i]? with
      | none => rw [hd] at hx; cases hx
      | some d => rw [hd] at hx; simp at hx; subst hx; exact .d _ _ (q2 i u d hu hd)
  · cases hc
section
variable {P : Program} {V : Env} {w0 w : World} {I0 I : Imm} {m : Nat → Value} {l : List AO} {n : Nat} {Q : Exit → St → Prop} {s : St} {x y : Code}
theorem WRel.frame (hrel : WRel w0 I0 w I m l) {vals : Nat → Value} {ft : Tm} (hft : ∀ k, RdT I m l (vals k) (get ft k)) :
    WRel w0 I0 w I (upd m l.length (.bool false)) (l ++ [.frame l.length vals ft]) ∧ Le I m l I (upd m l.length (.bool false)) (l ++ [.frame l.length vals ft]) := by
  have hget : ∀ k, k < l.length → (l ++ [AO.frame l.length vals ft])[k]? = l[k]? := fun k hk => List.getElem?_append_left hk
  have hlast : (l ++ [AO.frame l.length vals ft])[l.length]? = some (.frame l.length vals ft) := by simp
  have hle : Le I m l I (upd m l.length (.bool false)) (l ++ [.frame l.length vals ft]) := by
    refine ⟨.refl I, by simp, fun id hid hv => ⟨?_, upd_ne m _ (by omega)⟩, fun id hid hr => ⟨?_, upd_ne m _ (by omega)⟩, fun id e' s' els' hid hh => ⟨els', ?_⟩⟩
    · unfold isVar at hv ⊢; rw [hget id hid]; exact hv
    · unfold isRow at hr ⊢; rw [hget id hid] at hr; exact hr
    · rw [hget id hid] at hh; exact hh
  have hal : ∀ k, k ≠ l.length → alive (l ++ [AO.frame l.length vals ft]) k = true → alive l k = true := by
    intro k hk ha
    obtain ⟨o, ho, hd⟩ := alive_iff.1 ha
    have hkl : k < l.length := by have := (List.getElem?_eq_some_iff.1 ho).1; simp at this; omega
    rw [hget k hkl] at ho
    exact alive_iff.2 ⟨o, ho, hd⟩
  refine ⟨⟨hrel.below, hrel.sat, hrel.ext, fun id o ho => ?_, fun i j b hij hi hj hbi hbj => ?_⟩, hle⟩
  · by_cases hid : id < l.length
    · rw [hget id hid] at ho; rw [upd_ne m _ (by omega)]
      by_cases hd : o = .dead
      · subst hd; trivial
      · exact (hrel.obj id o ho).keep hle (fun _ _ => rfl) (fun _ _ => ⟨rfl, rfl⟩)
    · have : id = l.length := by
        have := (List.getElem?_eq_some_iff.1 ho).1; simp at this; omega
      subst this
      rw [hlast] at ho; injection ho with ho; subst ho
      rw [upd_same]
      refine ⟨rfl, by simp, fun k => ?_⟩
      have e : (l ++ [AO.frame l.length vals ft]).take l.length = l := by simp
      rw [e]
      refine (hft k).mono ⟨.refl I, Nat.le_refl _, fun id hid hv => ⟨hv, upd_ne m _ (by omega)⟩, fun id hid hr => ⟨hr, upd_ne m _ (by omega)⟩, fun id e' s' els' hid hh => ⟨els', hh⟩⟩
  · by_cases h1 : i = l.length
    · subst h1; rw [upd_same] at hbi; cases hbi
    · by_cases h2 : j = l.length
      · subst h2; rw [upd_same] at hbj; cases hbj
      · rw [upd_ne m _ h1] at hbi; rw [upd_ne m _ h2] at hbj
        exact hrel.sep i j b hij (hal i h1 hi) (hal j h2 hj) hbi hbj
theorem WRel.allocDf (h : WRel w0 I0 w I m l) : ∃ J : Imm, WRel w0 I0 (w.alloc (.deferred (some []))) J m l ∧ Le I m l J m l ∧ J.df w.heap.size ∧ ¬ I.df w.heap.size := by
  let J : Imm := ⟨I.cell, I.mp, fun b => I.df b ∨ b = w.heap.size⟩
  have hle : I.le J := ⟨fun _ _ _ h => h, fun _ _ h => h, fun _ h => .inl h⟩
  have hnew : (w.alloc (.deferred (some []))).heap[w.heap.size]? = some (.deferred (some [])) := World.alloc_heap_new w _
  obtain ⟨r1, r2⟩ := h.call (J := J) (Bel.alloc (Bel.refl _ _) (Nat.le_refl _) (.deferred (some []))) (.of hle (fun _ _ => rfl) (fun _ _ => rfl))
    ⟨fun b o v hc => by rw [World.cell?_alloc_lt w _ _ (h.sat.lt hc)]; exact h.sat.cell b o v hc, fun b es hc => MapAt.to (Below.heap_alloc w _ b (h.sat.ltm hc)) (h.sat.mp b es hc),
     fun b hd => by
      rcases hd with hd | rfl
      · exact (Below.heap_alloc w _ b (h.sat.ltd hd)).trans (h.sat.df b hd)
      · exact hnew, fun g d hg => (h.sat.glob g d hg).mono hle⟩
  exact ⟨J, r1, r2, .inr rfl, fun hd => absurd (h.sat.ltd hd) (Nat.lt_irrefl _)⟩
def afterR (P : Program) (w0 : World) (I0 : Imm) (n : Nat) (Q : Exit → St → Prop) (s : St) (id : Nat) (l' : List AO) : Prop :=
  ∃ base k ps asg body tm st pend, l'[id]? = some (.loop base k ps asg body tm st pend) ∧ st ≠ .busy ∧
    match pend with
    | none => Q .normal ⟨s.t, l'.set id (.loop base k ps asg body tm .exhausted pend)⟩
    | some c => AWp P w0 I0 n c ⟨s.t, l'.set id (.loop base k ps asg body tm .exhausted pend)⟩ Q
theorem cellsR {w : World} {b : Nat} {r : Loop} {o : Obj} (h : w.heap[b]? = some (.loop r)) : (w.putObj b o).heap[b]? = some o := World.putObj_heap_same (Array.getElem?_eq_some_iff.1 h).1
theorem WRel.turnLoop (hrel : WRel w0 I0 w I m l) {id b base k : Nat} {ps : Array Tmp} {asg body : Code} {tm : Tm} {st st' : LoopState} {pend pend' : Option Code} (ho : l[id]? = some (.loop base k ps asg body tm st pend)) (hm : m id = .func (.yield b) #[] #[]) :
    ∃ r, w.heap[b]? = some (.loop r) ∧ (r.state = st ∧ r.pending = pend ∧ r.params = ps ∧ r.assign = asg ∧ r.body = body ∧ r.tmps.size = k) ∧ base ≤ l.length ∧ (∀ j, RdT I m (l.take base) (r.tmps.getD j undef) (get tm j)) ∧
      Le I m l I m (l.set id (.loop base k ps asg body tm st' pend')) ∧ WRel w0 I0 (w.putObj b (.loop { r with state := st', pending := pend' })) I m (l.set id (.loop base k ps asg body tm st' pend')) := by
  obtain ⟨b', r, q0, q1, q2, q3, q4, q5, q6⟩ := hrel.obj id _ ho
  rw [hm] at q0; injection q0 with q0; injection q0 with q0; subst q0
  have hle : Le I m l I m (l.set id (.loop base k ps asg body tm st' pend')) := Le.setKind ho rfl rfl (fun e size els h => by rcases h with h | h <;> cases h)
  refine ⟨r, q2, q3, q4, q5, hle, ?_⟩
  refine hrel.turnB (w' := w.putObj b (.loop { r with state := st', pending := pend' })) ho (by simp) (by rw [hm]; rfl) q6 rfl rfl hle rfl rfl rfl (Nat.le_refl _) (by simp) (fun j hj => World.putObj_heap_other hj) ?_
  exact ⟨b, _, hm, q1, cellsR q2, ⟨rfl, rfl, q3.2.2.1, q3.2.2.2.1, q3.2.2.2.2.1, q3.2.2.2.2.2⟩, by simpa using q4, fun j => (q5 j).mono (hle.take base), q6⟩
theorem get_free (t : Tm) : ∃ N, get t N = .undef := by
  have : ∃ B, ∀ k, B ≤ k → get t k = .undef := by
    induction t with
    | nil => exact ⟨0, fun _ _ => rfl⟩
    | cons p r ih =>
      obtain ⟨i, t⟩ := p
      obtain ⟨B, hB⟩ := ih
      exact ⟨B + i + 1, fun k hk => by simp only [get]; rw [if_neg (by omega)]; exact hB k (by omega)⟩
  obtain ⟨B, hB⟩ := this
  exact ⟨B, hB B (Nat.le_refl _)⟩
theorem AWp.rangeF (hr0 : Rnd.r = none) {g : Operand} {ps : Array Tmp} {assign body : Code} {gf : FuncId} {caps : List T} (hc : closT (evT s.t g) = some (gf, caps))
    (h : ∀ asg bod, asg = assign → bod = body → ∀ K : T → List AO → Prop, (∀ u l', afterR P w0 I0 n Q s s.l.length l' → K u l') → SemC P gf (.yld s.l.length :: caps) (s.l ++ [.loop s.l.length n ps asg bod s.t .ready none]) K) :
    AWp P w0 I0 n (.rangeFunc g ps assign body) s Q := fun a w hr => by
  obtain ⟨hsz, I, m, hw, hdf, ht⟩ := hr
  obtain ⟨vs, hgv, hvs, hcaps⟩ := closT_ok (evT_ok hw.sat.glob ht g) hc
  obtain ⟨hen, hcall⟩ := h assign body rfl rfl _ (fun _ _ h => h)
  refine wpIn_rangeFunc ?_
  intro fn hfn
  have hround : RnF.round = none := hr0
  rw [hround]
  obtain ⟨J, hw1, hle1, hJD, hID⟩ := hw.allocDf
  obtain ⟨rec, hrec⟩ : ∃ rec : Loop, rec = { state := .ready, pending := none, fn, tmps := a.tmps, params := ps, assign, body, defers := w.heap.size } := ⟨_, rfl⟩
  have hnew : ((w.alloc (.deferred (some []))).alloc (.loop rec)).heap[w.heap.size + 1]? = some (.loop rec) := by
    have := World.alloc_heap_new (w.alloc (.deferred (some []))) (.loop rec); rwa [World.size_alloc] at this
  have hno := hw1.sat.noB (b := w.heap.size + 1) (by simp)
  have hok : ObjOk w0.heap.size ((w.alloc (.deferred (some []))).alloc (.loop rec)) J (upd m s.l.length (.func (.yield (w.heap.size + 1)) #[] #[])) (s.l ++ [.loop s.l.length n ps assign body s.t .ready none]) (.func (.yield (w.heap.size + 1)) #[] #[]) (.loop s.l.length n ps assign body s.t .ready none) := by
    refine ⟨w.heap.size + 1, rec, rfl, ?_, hnew, ?_, by simp, fun k => ?_, hno⟩
    · have := hw.below.size; omega
    · rw [hrec]; exact ⟨rfl, rfl, rfl, rfl, rfl, hsz⟩
    · have e : (s.l ++ [AO.loop s.l.length n ps assign body s.t .ready none]).take s.l.length = s.l := by simp
      rw [e, hrec]
      exact ((ht k).mono hle1).mono ⟨.refl J, Nat.le_refl _, fun id hid hv => ⟨hv, upd_ne m _ (by omega)⟩, fun id hid hr => ⟨hr, upd_ne m _ (by omega)⟩, fun id e' s' els' hid hh => ⟨els', hh⟩⟩
  have hg2 : World.grownBy (w.alloc (.deferred (some []))) ((w.alloc (.deferred (some []))).alloc (.loop rec)) none := World.grownBy_alloc _ _ _
  obtain ⟨hle2, hw2⟩ := hw1.pushA (b0 := w.heap.size + 1) rfl (by simp) hg2 (Nat.le_refl _) (by simp) hok
  have hyld : RdT J (upd m s.l.length (.func (.yield (w.heap.size + 1)) #[] #[])) (s.l ++ [.loop s.l.length n ps assign body s.t .ready none]) (.func (.yield (w.heap.size + 1)) #[] #[]) (.yld s.l.length) :=
    .yld _ _ (by simp [isVar, AO.isVar]) (upd_same m _ _)
  refine ⟨w.heap.size + 1, [mark w.heap.size], (w.alloc (.deferred (some []))).alloc (.loop rec), { target := .fn (.func gf) vs, args := #[.func (.yield (w.heap.size + 1)) #[] #[]] }, (w.alloc (.deferred (some []))).alloc (.loop rec), gf,
    #[.func (.yield (w.heap.size + 1)) #[] #[]] ++ vs, (w.alloc (.deferred (some []))).alloc (.loop rec), ?_, ?_, fun f' _ => RnF_fn f', ?_, fun h => by simp [RnF, Fence.wide] at h, ?_⟩
  · rw [hrec]; exact run_enterLoop_outer _ _ _ _ _
  · simp only [resolve, hgv]
    simp [go_sem]
  · simp [invoke, hen _ _]
  · refine calls_RnF ?_ _
    -- the record's block is remembered in a slot of its own
    obtain ⟨N, hN⟩ := get_free s.t
    have hA : ∀ (i : Nat) v x, (#[Value.func (.yield (w.heap.size + 1)) #[] #[]] ++ vs)[i]? = some v → (T.yld s.l.length :: caps)[i]? = some x → RdT J (upd m s.l.length (.func (.yield (w.heap.size + 1)) #[] #[])) (s.l ++ [.loop s.l.length n ps assign body s.t .ready none]) v x := fun i v x hv hx => by
      rcases i with _ | i
      · rw [Array.getElem?_append_left (by simp)] at hv
        simp at hv hx; subst hv; subst hx; exact hyld
      · have hv' : vs[i]? = some v := by
          rw [Array.getElem?_append_right (by simp)] at hv
          simpa using hv
        simp at hx
        exact ((hcaps i v x hv' hx).mono hle1).mono hle2
    have hB : ∀ k, RdT J (upd m s.l.length (.func (.yield (w.heap.size + 1)) #[] #[])) (s.l ++ [.loop s.l.length n ps assign body s.t .ready none]) (if k = N then .func (.yield (w.heap.size + 1)) #[] #[] else a.tmps.getD k undef) (get ((N, .yld s.l.length) :: s.t) k) := fun k => by
      simp only [get]
      by_cases hk : N = k
      · subst hk; simp only [if_true]; exact hyld
      · rw [if_neg hk, if_neg (Ne.symm hk)]
        exact ((ht k).mono hle1).mono hle2
    have hC := hcall w0 I0 _ J _ (#[Value.func (.yield (w.heap.size + 1)) #[] #[]] ++ vs) (fun k => if k = N then .func (.yield (w.heap.size + 1)) #[] #[] else a.tmps.getD k undef) ((N, .yld s.l.length) :: s.t) hw2 (by simp [hvs]; omega) hA hB
    refine hC.mono ?_
    · rintro e w' ⟨v, rfl, t, l', J', m', hk, hw', hv, hdk, hslots⟩
      obtain ⟨base, k, ps', asg, bod, tm, st, pend, hl', hst, hcont⟩ := hk
      have hy := hslots N
      simp only [get, if_true] at hy
      have hmid : m' s.l.length = .func (.yield (w.heap.size + 1)) #[] #[] := by
        cases hy with
        | yld _ _ _ h2 => exact h2
      obtain ⟨r, q1, q2, q3, q4, q5, q6⟩ := hw'.turnLoop (st' := .exhausted) (pend' := pend) hl' hmid
      have hend := run_endLoop (P := P) q1 (by rw [q2.1]; exact hst)
      have hr' : r.pending = pend := q2.2.1
      refine ⟨pend, _, by rw [← hr']; exact hend, ?_⟩
      have hrel' : Rel w0 I0 n ⟨s.t, l'.set s.l.length (.loop base k ps' asg bod tm .exhausted pend)⟩ { a with defers := [mark w.heap.size] ++ a.defers } (w'.putObj (w.heap.size + 1) (.loop { r with state := .exhausted })) := by
        refine ⟨hsz, J', m', ?_, ?_, fun k => ?_⟩
        · have : ({ r with state := .exhausted } : Loop) = { r with state := .exhausted, pending := pend } := by rw [← hr']
          rw [this]; exact q6
        · refine Dfs.mono' (I := J) (Dfs.cons (hdf.mono' (J := I) fun _ h => h) (fun b hb => hle1.imm.df b hb) (by exact hw.below.size) hID hJD) hdk
        · have := hslots k
          simp only [get] at this
          by_cases hk : N = k
          · subst hk
            rw [hN]; exact .undef _
          · rw [if_neg hk, if_neg (Ne.symm hk)] at this
            exact this.mono q5
      cases pend with
      | none => exact ⟨_, hcont, hrel'⟩
      | some c => exact hcont _ _ hrel'
def yldOf (E : TEnv) (ρ : Operand → T) (o : Oper) : Option (Nat × List T) := match o.op with
  | .call c => (match c.callee with
    | .value f => (match ρ f with
      | .yld id => some (id, typedAll E c.argTypes.toList (c.args.toList.map ρ))
      | _ => none)
    | _ => none)
  | _ => none
theorem yldOf_congr {E : TEnv} {ρ ρ' : Operand → T} {o : Oper} (h : ∀ x ∈ o.op.operands, ρ x = ρ' x) : yldOf E ρ o = yldOf E ρ' o := by
  unfold yldOf
  split
  · rename_i c ho
    split
    · rename_i f hf
      have h1 := h f (by simp [ho, Op.operands, Call.operands, hf])
      have h2 : c.args.toList.map ρ = c.args.toList.map ρ' := List.map_congr_left fun x hx => h x (by simp [ho, Op.operands, Call.operands]; right; simpa using hx)
      rw [h1, h2]
    · rfl
  · rfl
theorem yldOf_nd {E : TEnv} {ρT : Operand → T} {o : Oper} {x : Nat × List T} (h : yldOf E ρT o = some x) : ∀ c, o.op ≠ .defer c := by
  intro c hc
  unfold yldOf at h
  rw [hc] at h; cases h
theorem yldOf_run {E : TEnv} {o : Oper} {ρ : Operand → Value} {ρT : Operand → T} {id : Nat} {ts : List T} (hr : ∀ x ∈ o.op.operands, RdT I m l (ρ x) (ρT x)) (h : yldOf E ρT o = some (id, ts)) :
    ∃ (b : Nat) (args : Array Value) (f : Operand), f ∈ o.op.operands ∧ ρ f = .func (.yield b) #[] #[] ∧ ρT f = .yld id ∧ m id = .func (.yield b) #[] #[] ∧ (execOp ρ o).run P w = (Instr.yield b args).run P w ∧ args.size = ts.length ∧ ∀ (i : Nat) v x, args[i]? = some v → ts[i]? = some x → RdT I m l v x := by
  unfold yldOf at h
  split at h
  · rename_i c ho
    split at h
    · rename_i f hcal
      have hmem : f ∈ o.op.operands := by simp [ho, Op.operands, Call.operands, hcal]
      have hf := hr f hmem
      have hargs : ∀ (i : Nat) v x, (c.args.toList.map ρ)[i]? = some v → (c.args.toList.map ρT)[i]? = some x → RdT I m l v x := by
        intro i v x hv hx
        rw [List.getElem?_map] at hv hx
        cases ha : c.args.toList[i]? with
        | none => simp [ha] at hv
        | some a =>
          simp [ha] at hv hx
          subst hv; subst hx
          refine hr a ?_
          simp only [ho, Op.operands, Call.operands, hcal]
          have := List.mem_of_getElem? ha
          simp at this ⊢
          exact .inr this
      obtain ⟨htl, hargs'⟩ := typedAll_ok (E := E) c.argTypes.toList _ _ hargs
      generalize hva : ρ f = vf at hf
      split at h
      · rename_i id' hT
        rw [hT] at hf
        injection h with h; injection h with h1 h2; subst h1
        cases hf with
        | yld _ b q1 q2 =>
          refine ⟨b, c.args.map ρ, f, hmem, hva, hT, q2, ?_, ?_, fun i v x hv hx => ?_⟩
          · unfold execOp
            simp only [ho, resolve, hcal, hva, Deferred.ofValue, Sem.run_bind, Sem.run_pure, Result.andThen_ok, invoke]
            simp
          · rw [← h2]; simp [htl]
          · rw [← h2] at hx
            exact hargs' i v x (by simpa using hv) hx
      · cases h
    · cases h
  · cases h
def roundT (ps : List Tmp) (ts : List T) (tm : Tm) : Tm := (ps.zip ts).foldl (fun s p => (p.1, p.2) :: s) tm
theorem roundT_ok : ∀ (ps : List Tmp) (args : List Value) (ts : List T) (tmps : Array Value) (tm : Tm), args.length = ts.length → (∀ (i : Nat) v x, args[i]? = some v → ts[i]? = some x → RdT I m l v x) → (∀ p ∈ ps, p < tmps.size) → (∀ k, RdT I m l (tmps.getD k undef) (get tm k)) →
    ((ps.zip args).foldl (fun t (p : Tmp × Value) => t.setIfInBounds p.1 p.2) tmps).size = tmps.size ∧ ∀ k, RdT I m l (((ps.zip args).foldl (fun t (p : Tmp × Value) => t.setIfInBounds p.1 p.2) tmps).getD k undef) (get (roundT ps ts tm) k)
  | [], args, ts, tmps, tm, _, _, _, h => ⟨rfl, by simpa [roundT] using h⟩
  | p :: ps, [], [], tmps, tm, _, _, _, h => ⟨by simp, by simpa [roundT] using h⟩
  | p :: ps, v :: args, t :: ts, tmps, tm, hl, hr, hp, h => by
    have hps : p < tmps.size := hp p (by simp)
    obtain ⟨h1, h2⟩ := roundT_ok ps args ts (tmps.setIfInBounds p v) ((p, t) :: tm) (by simpa using hl) (fun i u x hu hx => hr (i + 1) u x (by simpa using hu) (by simpa using hx)) (fun q hq => by simpa using hp q (by simp [hq])) (fun k => by
      simp only [get]
      by_cases hk : p = k
      · subst hk
        rw [if_pos rfl, Array.getD_eq_getD_getElem?, Array.getElem?_setIfInBounds_self_of_lt hps]
        exact hr 0 v t rfl rfl
      · rw [if_neg hk, Array.getD_eq_getD_getElem?, Array.getElem?_setIfInBounds_ne hk, ← Array.getD_eq_getD_getElem?]
        exact h k)
    refine ⟨by simpa using h1, ?_⟩
    simpa [roundT] using h2
  | p :: ps, [], _ :: _, _, _, hl, _, _, _ => by simp at hl
  | p :: ps, _ :: _, [], _, _, hl, _, _, _ => by simp at hl
def jumpOf : Exit → Option (Option Code)
  | .normal => some none
  | .ret => some (some .ret)
  | .exit id => some (some (.exit id))
  | .goto t => some (some (.goto t))
  | _ => none
def onlyN (K : St → Prop) : Exit → St → Prop
  | .normal, s => K s
  | _, _ => False
def RetR (s2 : St) (at_ : Nat) (vals : Nat → Value) (ft : Tm) (id base k : Nat) (ps : Array Tmp) (asg body : Code) (tm : Tm) (jump : Option Code) (K : List AO → Prop) : Prop :=
  ∃ s3, Sub s2 s3 ∧ s3.l[at_]? = some (.frame at_ vals ft) ∧ s3.l[id]? = some (.loop base k ps asg body tm .busy none) ∧ K (s3.l.set id (.loop base k ps asg body tm (if jump.isNone then .ready else .done) jump))
theorem Run.yld (hV : VOk P V) {ops : List Oper} {K : St → Prop} {o : Oper} {r : List Oper} {s : St} {id base k : Nat} {ts : List T} {ps : Array Tmp} {asg body : Code} {tm : Tm} {pc : PC} (hg : guardPc ops s.t o.guard = some pc) (hp : holds pc) (hd : dstOk n o.dst = true) (hy : yldOf V.E (evT s.t) o = some (id, ts)) (hl : s.l[id]? = some (.loop base k ps asg body tm .ready none)) (hps : ps.size = ts.length) (hpk : ps.toList.all (fun p => decide (p < k)) = true)
    (h : ∀ KR : Option Code → List AO → Prop, (∀ jump l', Run P n ops r ⟨putT s.t o.dst (.d (.bool jump.isNone)), l'⟩ K → KR jump l') → ∀ (R : Rnd) (w0 : World) (I0 : Imm) (vals : Nat → Value) (ft : Tm) (Q : Exit → St → Prop), (∀ e jump s2, jumpOf e = some jump → RetR s2 s.l.length vals ft id base k ps asg body tm jump (KR jump) → Q e s2) →
      @AWp _ R P w0 I0 k asg ⟨roundT ps.toList ts tm, s.l ++ [.frame s.l.length vals ft]⟩ (onlyN fun s1 => ∃ s2, Sub s1 s2 ∧ s2.l[s.l.length]? = some (.frame s.l.length vals ft) ∧ s2.l[id]? = some (.loop base k ps asg body tm .ready none) ∧ @AWp _ R P w0 I0 k body ⟨s2.t, s2.l.set id (.loop base k ps asg body tm .busy none)⟩ Q)) : Run P n ops (o :: r) s K := by
  intro st hsl ha w0 I0 a w Q Kn hrel hK
  have hx : ∀ x ∈ o.op.operands, evT st.t x = evT s.t x := fun x hx => evT_agree fun t ht => ha t (List.mem_append_left _ (List.mem_filterMap.2 ⟨x, by simpa using hx, by rw [ht]⟩))
  obtain ⟨hsz, I, m, hw, hdf, ht⟩ := hrel
  have hwant := (wanted_ok (ops := ops) (a := a) ht ((guardPc_agree ha).trans hg)).2 hp
  rw [if_pos hwant]
  rw [hsl] at hw ht
  obtain ⟨b, args, f, hfm, hfv, hfT, hmid, hrun, hlen, hargs⟩ := yldOf_run (P := P) (w := w) (ρ := a.eval) (fun x _ => evT_ok hw.sat.glob ht x) ((yldOf_congr hx).trans hy)
  obtain ⟨rec, hb, hrec, hbase, htm, _, _⟩ := hw.turnLoop (st' := .ready) (pend' := none) hl hmid
  obtain ⟨hst, hpe, hpp, has, hbo, hsz'⟩ := hrec
  -- the slot that holds what the loop handed out
  obtain ⟨j, rfl⟩ : ∃ j, f = .tmp j := by
    cases f with
    | tmp j => exact ⟨j, rfl⟩
    | const v =>
      exfalso
      simp only [evT, constT] at hfT
      split at hfT <;> cases hfT
    | global g =>
      exfalso
      simp only [evT] at hfT
      split at hfT <;> cases hfT
    | func g => simp [evT] at hfT
  have hjv : a.tmps.getD j undef = .func (.yield b) #[] #[] := hfv
  have hjT : get st.t j = .yld id := hfT
  have hid : ∀ {I1 : Imm} {m1 : Nat → Value} {w1 : World} {l1 : List AO}, WRel w0 I0 w1 I1 m1 l1 → l1[s.l.length]? = some (.frame s.l.length (fun j => a.tmps.getD j undef) st.t) → m1 id = .func (.yield b) #[] #[] := fun {I1 m1 w1 l1} hw1 hf1 => by
    have h1 := (hw1.obj _ _ hf1).2.2 j
    simp only [hjv, hjT] at h1
    cases h1 with
    | yld _ _ _ h2 => exact h2
  unfold Oper.wpIn
  refine ⟨fun _ _ => RnF_fn _, ?_⟩
  rw [Oper.semAt_eq _ _ _ (yldOf_nd hy), hrun, run_yield hb (by rw [hpp, hlen, hps]), Oper.uponIn_round]
  refine ⟨fun h => by simp [RnF, Fence.wide] at h, ?_⟩
  obtain ⟨hwf, hlef⟩ := hw.frame (vals := fun j => a.tmps.getD j undef) (ft := st.t) ht
  have hrd := roundT_ok (m := upd m s.l.length (.bool false)) (l := s.l ++ [.frame s.l.length (fun j => a.tmps.getD j undef) st.t]) (I := I) ps.toList args.toList ts rec.tmps tm (by simpa using hlen) (fun i v x hv hx => (hargs i v x (by simpa using hv) hx).mono hlef) (fun p hp => by rw [hsz']; simpa using List.all_eq_true.1 hpk p hp) (fun q => ((htm q).mono (Le.untake I m s.l base)).mono hlef)
  have hfold : (rec.params.zip args).foldl (fun tmps (x : Tmp × Value) => tmps.setIfInBounds x.1 x.2) rec.tmps = (ps.toList.zip args.toList).foldl (fun t (p : Tmp × Value) => t.setIfInBounds p.1 p.2) rec.tmps := by
    rw [← Array.foldl_toList, Array.toList_zip, hpp]
  have hstart : @Rel _ ⟨some b, I.df⟩ w0 I0 k ⟨roundT ps.toList ts tm, s.l ++ [.frame s.l.length (fun j => a.tmps.getD j undef) st.t]⟩ { tmps := (rec.params.zip args).foldl (fun tmps (x : Tmp × Value) => tmps.setIfInBounds x.1 x.2) rec.tmps, defers := [] } w := by
    rw [hfold]
    exact @Rel.mk _ ⟨some b, I.df⟩ _ _ _ _ _ _ (hrd.1.trans hsz') ⟨I, _, hwf, @Dfs.nil _ ⟨some b, I.df⟩ _ _ fun _ h => h, hrd.2⟩
  have hwalk := h (fun jump l' => Run P n ops r ⟨putT s.t o.dst (.d (.bool jump.isNone)), l'⟩ K) (fun _ _ h => h) ⟨some b, I.df⟩ w0 I0 (fun j => a.tmps.getD j undef) st.t (fun e s2 => ∃ jump, jumpOf e = some jump ∧ @RetR _ ⟨some b, I.df⟩ s2 s.l.length (fun j => a.tmps.getD j undef) st.t id base k ps asg body tm jump (fun l' => Run P n ops r ⟨putT s.t o.dst (.d (.bool jump.isNone)), l'⟩ K)) (fun e jump s2 h1 h2 => ⟨jump, h1, h2⟩) _ _ hstart
  refine roundIn_of_wpIn (F := RnF) (RnF_fn _) ?_
  rw [has, hbo]
  refine Code.wpIn_mono (fun e a1 w1 hq => ?_) hwalk
  obtain ⟨s1, hq, hr1⟩ := hq
  cases e <;> simp only [onlyN] at hq
  obtain ⟨s2, hsub, hfr, hlp, hbody⟩ := hq
  obtain ⟨hsz1, I1, m1, hw1, hdf1, ht1⟩ := hsub _ _ _ _ _ hr1
  obtain ⟨r1, p1, p2, p3, p4, p5, p6⟩ := hw1.turnLoop (st' := .busy) (pend' := none) hlp (hid hw1 hfr)
  have hbr := run_beginRound (P := P) p1 p2.1
  refine ⟨_, hbr, ?_⟩
  have e1 : ({ r1 with state := .busy } : Loop) = { r1 with state := .busy, pending := none } := by rw [← p2.2.1]
  rw [e1]
  refine Code.wpIn_mono (fun e a2 w2 hq => ?_) (hbody a1 _ (@Rel.mk _ ⟨some b, I.df⟩ _ _ _ _ _ _ hsz1 ⟨I1, m1, p6, hdf1, fun q => (ht1 q).mono p5⟩))
  obtain ⟨s', ⟨jump, hj, s3, hsub3, hfr3, hlp3, hK3⟩, hr3⟩ := hq
  obtain ⟨_, I3, m3, hw3, hdf3, ht3⟩ := hsub3 _ _ _ _ _ hr3
  obtain ⟨r3, q1, q2, q3, q4, q5, q6⟩ := hw3.turnLoop (st' := if jump.isNone then .ready else .done) (pend' := jump) hlp3 (hid hw3 hfr3)
  have hend := run_endRound (P := P) jump q1
  have hkeep : ∀ b, I.df b → I3.df b := by
    obtain ⟨_, _, _, _, h4⟩ := hdf3
    exact h4
  have hfo := (hw3.obj _ _ hfr3).2.2
  have fin : ∃ v w', (Instr.endRound b jump).run P w2 = .ok v w' ∧ Kn (a.put o.dst v) w' := by
    refine ⟨_, _, hend, hK _ _ _ _ hK3 (fun hk => ?_) ⟨by cases o.dst <;> simp [Act.put, hsz], I3, m3, q6, hdf.put' hkeep, ?_⟩⟩
    · exfalso
      have hy' := hy
      unfold yldOf at hy'
      unfold keepsV isReg at hk
      split at hy'
      · rename_i c ho
        rw [ho] at hk
        simp only [Bool.false_or] at hk
        split at hy'
        · rename_i f hf; rw [hf] at hk; simp at hk
        · cases hy'
      · cases hy'
    · exact putT_ok hsz hd (fun q => ((hfo q).mono (Le.untake I3 m3 s3.l s.l.length)).mono q5) (.d _ _ (.bool _))
  cases e <;> simp only [jumpOf, Option.some.injEq] at hj <;> first | (subst hj; exact fin) | cases hj
theorem RunAt.yld (hV : VOk P V) {i : Nat} {ops : List Oper} {live : List Nat} {K : St → Prop} {o : Oper} (id : Nat) (ts : List T) {base k : Nat} {ps : Array Tmp} {asg body : Code} {tm : Tm} {pc : PC} (ho : ops[i]? = some o) (hg : guardPc ops s.t o.guard = some pc) (hp : holds pc) (hd : dstOk n o.dst = true) (hy : yldOf V.E (evT s.t) o = some (id, ts))
    (hl : s.l[id]? = some (.loop base k ps asg body tm .ready none)) (hps : ps.size = ts.length) (hpk : ps.toList.all (fun p => decide (p < k)) = true)
    (h : ∀ KR : Option Code → List AO → Prop, (∀ jump l', RunAt P n ops (i + 1) live ⟨putT s.t o.dst (.d (.bool jump.isNone)), l'⟩ K → KR jump l') → ∀ (R : Rnd) (w0 : World) (I0 : Imm) (vals : Nat → Value) (ft : Tm) (Q : Exit → St → Prop), (∀ e jump s2, jumpOf e = some jump → RetR s2 s.l.length vals ft id base k ps asg body tm jump (KR jump) → Q e s2) →
      @AWp _ R P w0 I0 k asg ⟨roundT ps.toList ts tm, s.l ++ [.frame s.l.length vals ft]⟩ (onlyN fun s1 => ∃ s2, Sub s1 s2 ∧ s2.l[s.l.length]? = some (.frame s.l.length vals ft) ∧ s2.l[id]? = some (.loop base k ps asg body tm .ready none) ∧ @AWp _ R P w0 I0 k body ⟨s2.t, s2.l.set id (.loop base k ps asg body tm .busy none)⟩ Q)) : RunAt P n ops i live s K := by
  unfold RunAt
  have hk := (List.getElem?_eq_some_iff.1 ho).1
  rw [List.drop_eq_getElem_cons hk, (List.getElem?_eq_some_iff.1 ho).2]
  exact Run.yld hV hg hp hd hy hl hps hpk h
theorem AWp.rangeFS (hr0 : Rnd.r = none) {g : Operand} {ps : Array Tmp} {assign body : Code} {gf : FuncId} {caps : List T} (hc : closT (evT s.t g) = some (gf, caps))
    (h : ∀ asg bod, asg = assign → bod = body → ∀ K : T → List AO → Prop, (∀ u l', afterR P w0 I0 n (thenQ (fun s' => AWp P w0 I0 n y s' Q) Q) s s.l.length l' → K u l') → SemC P gf (.yld s.l.length :: caps) (s.l ++ [.loop s.l.length n ps asg bod s.t .ready none]) K) :
    AWp P w0 I0 n ((Code.rangeFunc g ps assign body).seq y) s Q := AWp.seq (AWp.rangeF hr0 hc h)
end
end Go.Eva
namespace Go.Eva
open Go Go.RowKit Enc
variable [Drw]
structure Bx (α : Type) where
  v : α
instance {α : Type} [Enc α] : Enc (Bx α) := ⟨fun b => .box (enc b.v), fun d => match d with | .box d => ⟨dec d⟩ | d => ⟨dec d⟩, 1, fun b => by simp only [dec_enc], fun _ => rfl, by simp [D.cells, D.one]⟩
theorem enc_bx {α : Type} [Enc α] (b : Bx α) : enc b = .box (enc b.v) := rfl
theorem dec_bx {α : Type} [Enc α] (d : D) : (dec (.box d) : Bx α) = ⟨dec d⟩ := rfl
theorem size_bx {α : Type} [Enc α] : size (Bx α) = 1 := rfl
def cloIs (g : FuncId) : Option D → Bool
  | some (.clo g' _) => g == g'
  | some (.fn g') => g == g'
  | _ => false
def selS (i : Nat) (g : FuncId) (s t : Spec) : Spec := fun ds => if cloIs g ds[i]? = true then s ds else t ds
section
variable [Rnd] {P : Program} {g : FuncId}
theorem SpecOk.sel {i : Nat} {f : FuncId} {s t : Spec} (hs : SpecOk P g s) (ht : SpecOk P g t) : SpecOk P g (selS i f s t) := ⟨hs.1, fun ds r ob h hob => by
  unfold selS at h; split at h
  · exact hs.2 ds r ob h hob
  · exact ht.2 ds r ob h hob⟩
end
section
variable {w0 w : World} {I0 I : Imm} {m : Nat → Value} {l : List AO}
theorem WRel.shut1 (h : WRel w0 I0 w I m l) {g : Nat} {cur : Array Value} {e : TypeId} {fl : Nat × Nat} (hg : w0.heap.size ≤ g) (hh : w.heap[g]? = some (.cells cur e fl)) (hno : I.noB g) (hfree : ∀ id, alive l id = true → own (m id) ≠ some g) :
    WRel w0 I0 w (I.withCells g cur.toList) m l ∧ Le I m l (I.withCells g cur.toList) m l := by
  let J := I.withCells g cur.toList
  have hout : ∀ b, b ≠ g → J.cell b = I.cell b := fun b hb => by funext o; simp [J, Imm.withCells, hb]
  have hle : I.le J := ⟨fun b o v hc => by
    have hb : b ≠ g := by rintro rfl; rw [hno.1 o] at hc; cases hc
    rw [hout b hb]; exact hc, fun _ _ h => h, fun _ h => h⟩
  have hLe : Le I m l J m l := ⟨hle, Nat.le_refl _, fun _ _ h => ⟨h, rfl⟩, fun _ _ h => ⟨h, rfl⟩, fun _ _ _ els _ h => ⟨els, h⟩⟩
  have hsat : SatI w J := ⟨fun b o v hc => by
    by_cases hb : b = g
    · subst hb
      simp only [J, Imm.withCells, if_true] at hc
      cases hx : cur[o]? with
      | none => simp [hx, hno.1 o] at hc
      | some x => simp [hx] at hc; subst hc; simp [World.cell?, hh, hx]
    · rw [hout b hb] at hc; exact h.sat.cell b o v hc, h.sat.mp, h.sat.df, fun g d hd => (h.sat.glob g d hd).mono hle⟩
  refine ⟨⟨h.below, hsat, ⟨fun b o v hc => hle.cell b o v (h.ext.lc b o v hc), h.ext.lm, h.ext.ld, fun b hb => (hout b (by omega)).trans (h.ext.cell b hb), h.ext.mp⟩, fun id o ho => ?_, h.sep⟩, hLe⟩
  have hob := h.obj id o ho
  have key : (∀ b, own (m id) = some b → b ≠ g) → ObjOk w0.heap.size w J m l (m id) o := fun hk => hob.keep hLe (fun _ _ => rfl) fun b hb => ⟨hout b (hk b hb), rfl⟩
  cases o with
  | dead => trivial
  | frame base vals t => exact key fun b hb => by rw [hob.1] at hb; cases hb
  | _ => exact key fun b hb e => hfree id (alive_iff.2 ⟨_, ho, by simp [AO.isVar, AO.isRow]⟩) (e ▸ hb)
variable [Rnd] {s : St}
theorem Sub.frz (j id : Nat) (d : D) (ids : List Nat) {ty : TypeId} {t' : Tm} {l' : List AO} (hj : get s.t j = .ptr id 0) (ho : s.l[id]? = some (.var ty (d.cells.map .d))) (hd : ∀ x ∈ d.cells, x.one = true) (hid : id ∉ ids) (hnd : ids.Nodup) (hfr : framesOk ids s.l = true) (hl : renL ids s.l = l') (hf : forgetsR ids s.t t') :
    Sub s ⟨(j, .d (.box d)) :: t', l'⟩ := by
  subst hl
  intro w0 I0 n a w hr
  obtain ⟨h1, I, m, h3, h2, h4⟩ := hr
  obtain ⟨b, vs, q1, q2, q3, q4, q5, q6⟩ := h3.obj id _ ho
  have hren := h3.ren hnd hfr
  have hal : alive s.l id = true := alive_iff.2 ⟨_, ho, by simp⟩
  have hfree : ∀ k, alive (renL ids s.l) k = true → own (m ((ids[k]?).getD 0)) ≠ some b := by
    intro k hk
    obtain ⟨o, ho', _⟩ := alive_iff.1 hk
    have hkl := (List.getElem?_eq_some_iff.1 ho').1
    have hkl : k < ids.length := by simpa [renL] using hkl
    have hki : ids[k]? = some ids[k] := List.getElem?_eq_getElem hkl
    have hne : ids[k] ≠ id := fun e => hid (e ▸ List.getElem_mem hkl)
    have hak : alive s.l ids[k] = true := by
      unfold alive at hk ⊢; rw [ren_isVar hki, ren_isRow hki] at hk; exact hk
    rw [hki]
    exact h3.sep id ids[k] b (Ne.symm hne) hal hak (by rw [q1]; rfl)
  obtain ⟨r1, r2⟩ := hren.shut1 q2 q3 q6 hfree
  refine ⟨h1, _, _, r1, h2.mono r2.imm, fun k => ?_⟩
  simp only [get]
  by_cases hk : j = k
  · subst hk
    rw [if_pos rfl]
    have hv := h4 j
    rw [hj] at hv
    generalize a.tmps.getD j undef = v at hv
    cases hv with
    | ptr _ b' _ p1 p2 =>
      rw [p2] at q1; injection q1 with q1; injection q1 with q1; injection q1 with q1; subst q1
      refine .d _ _ (.box _ _ (fun k => (vs[k]?).getD undef) hd (fun k hk => ?_) fun k x hx => ?_)
      · have hks : k < vs.size := by rw [q4]; simpa using hk
        simp [Imm.withCells, hks]
      · have hks : k < vs.size := by rw [q4]; simpa using (List.getElem?_eq_some_iff.1 hx).1
        have hv : vs[k]? = some vs[k] := Array.getElem?_eq_getElem hks
        rw [hv]
        exact (rdD (q5 k _ (.d x) hv (by simp [hx])).1).mono r2.imm
  · rw [if_neg hk]
    rcases forgetsR_get hf k with h | h
    · rw [h]; exact .undef _
    · rw [h]; exact ((h4 k).ren fun k id hk => by simp [hk]).mono r2
end
end Go.Eva
namespace Go.Eva
open Go Go.RowKit Enc
variable [Drw]
section
variable {w0 w : World} {I0 I : Imm} {m : Nat → Value} {l : List AO}
theorem take_set {l : List AO} {k : Nat} {o : AO} (b : Nat) : (l.set k o).take b = (l.take b).set k o := by
  rw [List.take_set]
theorem set_dead {l : List AO} {k id : Nat} {o : AO} (h : (l.set id .dead)[k]? = some o) : (k = id ∧ o = .dead) ∨ (k ≠ id ∧ l[k]? = some o) := by
  by_cases e : k = id
  · subst e
    have hk : k < l.length := by have := (List.getElem?_eq_some_iff.1 h).1; simpa using this
    rw [List.getElem?_set_self hk] at h
    injection h with h; exact .inl ⟨rfl, h.symm⟩
  · rw [List.getElem?_set_ne (Ne.symm e)] at h; exact .inr ⟨e, h⟩
theorem RdT.noFrame {k : Nat} (ho : own (m k) = none) (hr : isRow l k = false) : ∀ {v : Value} {t : T}, RdT I m l v t → RdT I m (l.set k .dead) v t := by
  have hv : ∀ id, id ≠ k → isVar (l.set k .dead) id = isVar l id := fun id h => by unfold isVar; rw [List.getElem?_set, if_neg (Ne.symm h)]
  have hR : ∀ id, isRow (l.set k .dead) id = true → isRow l id = true ∧ id ≠ k := fun id h => by
    unfold isRow at h
    cases ho : (l.set k .dead)[id]? with
    | none => rw [ho] at h; simp at h
    | some o =>
      rw [ho] at h
      rcases set_dead ho with ⟨_, rfl⟩ | ⟨h1, h2⟩
      · simp [AO.isRow] at h
      · exact ⟨by unfold isRow; rw [h2]; exact h, h1⟩
  have hrow : ∀ (id : Nat) (e : TypeId) (size : Nat) (els : List D), ((l.set k .dead)[id]? = some (.row e size els) ∨ (l.set k .dead)[id]? = some (.frow e size els)) → l[id]? = some (.row e size els) ∨ l[id]? = some (.frow e size els) := fun id e size els h => by
    have : id ≠ k := (hR id (by unfold isRow; rcases h with h | h <;> simp [h, AO.isRow])).2
    rwa [List.getElem?_set, if_neg (Ne.symm this)] at h
  intro v t h
  induction h with
  | undef v => exact .undef v
  | d v x r => exact .d v x r
  | nils s => exact .nils s
  | ptr id b off h1 h2 => exact .ptr id b off ((hv id (fun e => by subst e; rw [h2] at ho; cases ho)).trans h1) h2
  | eptr b o size els k off val h1 h2 h3 h4 => exact .eptr b o size els k off val h1 h2 h3 h4
  | row A n c id h1 h2 => exact .row A n c id (by simpa using h1) fun hl => h2 (hR id hl).1
  | rptr a id q off h1 h2 => exact .rptr a id q off (by simpa using h1) fun e size els hl => h2 e size els (hrow id e size els hl)
  | map r id h1 h2 => exact .map r id (by simpa using h1) fun hl => h2 (hR id hl).1
  | tup vs ts h1 _ ih => exact .tup vs ts h1 ih
  | cond v pc t _ hn ih => exact .cond v pc t ih hn
  | clo g vs ts h1 _ ih => exact .clo g vs ts h1 ih
  | yld id b h1 h2 => exact .yld id b ((hv id (fun e => by subst e; rw [h2] at ho; cases ho)).trans h1) h2
  | sub A n c id lo hi h1 h2 => exact .sub A n c id lo hi (by simpa using h1) fun e size els hl => h2 e size els (hrow id e size els hl)
  | agg vs ts h1 h2 _ ih => exact .agg vs ts h1 h2 ih
theorem WRel.noFrame (h : WRel w0 I0 w I m l) {k base : Nat} {vals : Nat → Value} {ft : Tm} (hk : l[k]? = some (.frame base vals ft)) : WRel w0 I0 w I m (l.set k .dead) := by
  have hown : own (m k) = none := (h.obj k _ hk).1
  have hrow : isRow l k = false := by unfold isRow; rw [hk]; rfl
  have hrow' : ∀ b, isRow (l.take b) k = false := fun b => by
    by_cases hb : k < b
    · rw [isRow_take hb]; exact hrow
    · unfold isRow; rw [List.getElem?_take, if_neg hb]; rfl
  refine ⟨h.below, h.sat, h.ext, fun id o ho => ?_, fun i j b hij hi hj => ?_⟩
  · rcases set_dead ho with ⟨_, rfl⟩ | ⟨e, ho⟩
    · trivial
    · have hob := h.obj id o ho
      cases o with
      | dead => trivial
      | var ty cs =>
        obtain ⟨b, vs, q1, q2, q3, q4, q5, q6⟩ := hob
        exact ⟨b, vs, q1, q2, q3, q4, fun i x t hx ht => ⟨(q5 i x t hx ht).1.noFrame hown hrow, (q5 i x t hx ht).2⟩, q6⟩
      | row e size els => exact hob
      | frow e size els => exact hob
      | map ks vs => exact hob
      | fmap ks vs => exact hob
      | iter ks vs done => exact hob
      | frame base vals t => exact ⟨hob.1, by simpa using hob.2.1, fun j => by rw [take_set]; exact (hob.2.2 j).noFrame hown (hrow' base)⟩
      | loop b n ps asg body t st pend =>
        obtain ⟨b', r, q0, q1, q2, q3, q4, q5, q6⟩ := hob
        exact ⟨b', r, q0, q1, q2, q3, by simpa using q4, fun j => by rw [take_set]; exact (q5 j).noFrame hown (hrow' b), q6⟩
  · have al : ∀ q, alive (l.set k .dead) q = true → alive l q = true := fun q hq => by
      obtain ⟨o, ho, hd⟩ := alive_iff.1 hq
      rcases set_dead ho with ⟨_, rfl⟩ | ⟨e, ho⟩
      · exact absurd rfl hd
      · exact alive_iff.2 ⟨o, ho, hd⟩
    exact h.sep i j b hij (al i hi) (al j hj)
def nameT (l : List AO) (k : Nat) : T := match l[k]? with
  | some (.var ..) => .ptr k 0
  | some (.iter ..) => .ptr k 0
  | some (.loop ..) => .yld k
  | some (.row ..) => .row k
  | some (.frow ..) => .row k
  | some (.map ..) => .map k
  | some (.fmap ..) => .map k
  | _ => .undef
def namesT (l : List AO) : Tm := (List.range l.length).map fun k => (k, nameT l k)
theorem namesT_get (l : List AO) (k : Nat) : get (namesT l) k = if k < l.length then nameT l k else .undef := by
  have : ∀ (xs : List Nat), get (xs.map fun k => (k, nameT l k)) k = if k ∈ xs then nameT l k else .undef := by
    intro xs
    induction xs with
    | nil => rfl
    | cons x xs ih =>
      simp only [List.map_cons, get]
      by_cases h : x = k
      · subst h; simp
      · rw [if_neg h, ih]
        have : (k ∈ x :: xs) ↔ k ∈ xs := by simp [Ne.symm h]
        simp only [this]
  unfold namesT
  rw [this]; simp
def AO.isFrame : AO → Bool | .frame .. => true | _ => false
theorem FCon.ofSem {P : Program} {g : FuncId} {ts : List T} {l l' : List AO} {t : T} {k : Nat} (h : SemC P g ts l fun u l2 => u = t ∧ ∃ base vals ft, l2[k]? = some (.frame base vals ft) ∧ l2.set k .dead = l')
    (hnf : l.all (fun o => !o.isFrame) = true) (hlen : l.length ≤ l'.length) (hvar : ∀ id : Nat, id < l.length → isVar l id = true → isVar l' id = true) (hrow : ∀ id : Nat, id < l.length → isRow l' id = true → l'[id]? = l[id]? ∨ (∃ e size els els', l[id]? = some (.row e size els) ∧ l'[id]? = some (.row e size els'))) : FCon P g ts l t l' := by
  intro w0 I0 w I m args hrel hsz hargs
  have hrel' : WRel w0 I w I m l := ⟨hrel.below, hrel.sat, ExtI.refl _ _, hrel.obj, hrel.sep⟩
  refine (h.2 w0 I w I m args m (namesT l) hrel' hsz hargs fun q => ?_).mono ?_
  · rw [namesT_get]
    split
    · rename_i hq
      unfold nameT
      have ho := List.getElem?_eq_getElem hq
      generalize l[q] = o at ho
      have hob := hrel.obj q o ho
      rw [ho]
      cases o with
      | dead => exact .undef _
      | frame base vals t => exact .undef _
      | var ty cs =>
        obtain ⟨b, vs, q1, _⟩ := hob
        rw [q1]; exact .ptr q b 0 (by unfold isVar; rw [ho]; rfl) q1
      | iter ks vs done =>
        obtain ⟨b, mb, es, seen, q1, _⟩ := hob
        rw [q1]; exact .ptr q b 0 (by unfold isVar; rw [ho]; rfl) q1
      | loop b n ps asg body t st pend =>
        obtain ⟨b', r, q1, _⟩ := hob
        rw [q1]; exact .yld q b' (by unfold isVar; rw [ho]; rfl) q1
      | row e size els =>
        obtain ⟨xs, k1, _⟩ := hob
        obtain ⟨A, n, c, hm⟩ : ∃ A n c, m q = .slice A n c := by rcases k1.2 with ⟨h1, _⟩ | ⟨g, cap, cur, h1, _⟩ <;> exact ⟨_, _, _, h1⟩
        rw [hm]; exact .row A n c q hq fun _ => hm
      | frow e size els =>
        obtain ⟨xs, k1, _⟩ := hob
        obtain ⟨A, n, c, hm⟩ : ∃ A n c, m q = .slice A n c := by rcases k1.2 with ⟨h1, _⟩ | ⟨g, cap, cur, h1, _⟩ <;> exact ⟨_, _, _, h1⟩
        rw [hm]; exact .row A n c q hq fun _ => hm
      | map ks vs =>
        obtain ⟨b, es, q1, _⟩ := hob
        rw [q1]; exact .map _ q hq fun _ => q1
      | fmap ks vs =>
        obtain ⟨b, es, q1, _⟩ := hob
        rw [q1]; exact .map _ q hq fun _ => q1
    · exact .undef _
  · rintro e w' ⟨v, rfl, u, l2, J, m', ⟨rfl, base, vals, ft, hfr, rfl⟩, hw', hv, hdf, hsl⟩
    have hown : own (m' k) = none := (hw'.obj k _ hfr).1
    have hrk : isRow l2 k = false := by unfold isRow; rw [hfr]; rfl
    refine ⟨v, rfl, J, m', ⟨⟨hw'.ext.lc, hw'.ext.lm, hdf⟩, by simpa using hlen, fun id hid hiv => ⟨hvar id hid hiv, ?_⟩, fun id hid hir => ?_, fun id e size els hid hh => ?_⟩, ?_, hv.noFrame hown hrk⟩
    · have hs := (hsl id).noFrame hown hrk
      rw [namesT_get, if_pos hid] at hs
      unfold nameT at hs
      have ho := List.getElem?_eq_getElem hid
      generalize l[id] = o at ho
      have hnf' := List.all_eq_true.1 hnf o (List.mem_of_getElem? ho)
      rw [ho] at hs
      unfold isVar at hiv
      rw [ho] at hiv
      generalize m id = mv at hs
      cases o <;> simp [AO.isVar, AO.isFrame] at hiv hnf' <;> (simp only at hs; cases hs; first | (rename_i h2 _; exact h2) | (rename_i h2; exact h2))
    · have hrl : isRow l id = true := by
        rcases hrow id hid hir with h | ⟨e, size, els, els', h1, h2⟩
        · unfold isRow at hir ⊢; rw [← h]; exact hir
        · unfold isRow; rw [h1]; rfl
      refine ⟨hrl, ?_⟩
      have hs := (hsl id).noFrame hown hrk
      rw [namesT_get, if_pos hid] at hs
      unfold nameT at hs
      have ho := List.getElem?_eq_getElem hid
      generalize l[id] = o at ho
      rw [ho] at hs
      unfold isRow at hrl
      rw [ho] at hrl
      generalize m id = mv at hs
      cases o <;> simp [AO.isRow] at hrl <;> (simp only at hs; cases hs; rename_i h2; exact h2 hir)
    · rcases hrow id hid (by unfold isRow; rcases hh with hh | hh <;> simp [hh, AO.isRow]) with h | ⟨e', size', els1, els', h1, h2⟩
      · rw [h] at hh; exact ⟨els, hh⟩
      · rw [h2] at hh
        rcases hh with hh | hh
        · injection hh with hh; injection hh with a b c; subst a; subst b; exact ⟨els1, .inl h1⟩
        · cases hh
    · have h1 := hw'.noFrame hfr
      exact ⟨h1.below, h1.sat, hrel.ext.trans h1.ext (Nat.le_refl _), h1.obj, h1.sep⟩
variable [Rnd] {s : St}
theorem Sub.asSub (j id : Nat) {e size : Nat} {els : List D} (hj : get s.t j = .row id) (ho : s.l[id]? = some (.row e size els)) : Sub s ⟨(j, .sub id 0 els.length) :: s.t, s.l⟩ := by
  intro w0 I0 n a w hr
  obtain ⟨h1, I, m, h3, h2, h4⟩ := hr
  refine ⟨h1, I, m, h3, h2, fun k => ?_⟩
  simp only [get]
  by_cases hk : j = k
  · subst hk
    rw [if_pos rfl]
    have hv := h4 j
    rw [hj] at hv
    generalize a.tmps.getD j undef = v at hv
    cases hv with
    | row A n' c _ q1 q2 =>
      have hm := q2 (by unfold isRow; rw [ho]; rfl)
      obtain ⟨xs, k1, _⟩ := h3.obj id _ ho
      rw [hm] at k1
      have hn : n' = els.length := by
        rcases k1.2 with ⟨h1, h2⟩ | ⟨g, cap, cur, h1, _⟩
        · injection h1 with _ h3 h4; omega
        · injection h1
      subst hn
      refine .sub _ _ _ _ _ _ q1 fun e2 size2 els2 hl2 => ⟨A, _, c, hm, Nat.zero_le _, Nat.le_refl _, ?_⟩
      simp only [sliced, Nat.sub_zero, Nat.zero_mul]
      cases A with
      | none => simp
      | some ad => simp [Addr.add_lit]; intro _; cases ad; simp [Addr.add]
  · rw [if_neg hk]; exact h4 k
theorem Sub.takeRow (j id hi : Nat) {e size : Nat} {els : List D} (hj : get s.t j = .sub id 0 hi) (ho : s.l[id]? = some (.row e size els)) : Sub s ⟨(j, .row s.l.length) :: s.t, s.l.set id .dead ++ [.row e size (els.take hi)]⟩ := by
  intro w0 I0 n a w hr
  obtain ⟨h1, I, m, h3, h2, h4⟩ := hr
  have hv := h4 j
  rw [hj] at hv
  generalize hvj : a.tmps.getD j undef = v at hv
  obtain ⟨A, n', c, A0, n0, c0, rfl, hm, hlo, hhi, hsl⟩ : ∃ A n' c A0 n0 c0, v = .slice A n' c ∧ m id = .slice A0 n0 c0 ∧ 0 ≤ hi ∧ hi ≤ n0 ∧ Value.slice A n' c = sliced A0 0 hi c0 size := by
    cases hv with
    | sub A n' c _ _ _ q1 q2 =>
      obtain ⟨A0, n0, c0, k1, k2, k3, k4⟩ := q2 e size els (.inl ho)
      exact ⟨A, n', c, A0, n0, c0, rfl, k1, k2, k3, k4⟩
  obtain ⟨xs, k1, k2, k3, k4⟩ := h3.obj id _ ho
  rw [hm] at k1
  obtain ⟨hxl, hcase⟩ := k1
  have hidl : id < s.l.length := (List.getElem?_eq_some_iff.1 ho).1
  have hn0 : n0 = els.length := by
    rcases hcase with ⟨h1, h2⟩ | ⟨g, cap, cur, h1, _⟩
    · injection h1 with _ h3 h4; omega
    · injection h1
  subst hn0
  have hA : Value.slice A n' c = .slice A0 hi c0 := by
    rw [hsl]; simp only [sliced, Nat.sub_zero, Nat.zero_mul]
    cases A0 with
    | none => simp
    | some ad => simp [Addr.add_lit]; intro _; cases ad; simp [Addr.add]
  rw [hA] at hvj
  have hlo' : (s.l.set id .dead).length = s.l.length := by simp
  have hdie : ∀ (k : Nat) o, (s.l.set id .dead)[k]? = some o → o = .dead ∨ s.l[k]? = some o := fun k o hk => (set_dead hk).imp (·.2) (·.2)
  have hvars : ∀ (k : Nat) o, o.isVar = true → s.l[k]? = some o → (s.l.set id .dead)[k]? = some o := fun k o hv hk => by
    have : k ≠ id := fun e => by subst e; rw [ho] at hk; injection hk with hk; subst hk; cases hv
    rw [List.getElem?_set, if_neg (Ne.symm this)]; exact hk
  have hal : ∀ k, alive (s.l.set id .dead) k = true → alive s.l k = true ∧ k ≠ id := fun k hk => by
    obtain ⟨o, hk, hd⟩ := alive_iff.1 hk
    rcases set_dead hk with ⟨_, rfl⟩ | ⟨e, hk⟩
    · exact absurd rfl hd
    · exact ⟨alive_iff.2 ⟨o, hk, hd⟩, e⟩
  have hali : alive s.l id = true := alive_iff.2 ⟨_, ho, by simp⟩
  have hlen : (els.take hi).length = hi := by simp; omega
  have hmul : hi * size ≤ els.length * size := Nat.mul_le_mul_right _ hhi
  have hown : own (.slice A0 hi c0) = own (m id) := by rw [hm]; cases A0 <;> rfl
  obtain ⟨r1, r2, r3⟩ := h3.push_row (w' := w) (e := e) (size := size) (els := els.take hi) (v := .slice A0 hi c0) (row := none) (lo := s.l.set id .dead) hlo' hdie hvars ⟨rfl, rfl, rfl, Nat.le_refl _, fun _ _ _ => rfl⟩ (Nat.le_refl _) (by simp) (by simp)
    (fun b hb => ⟨((h3.obj id _ ho).lt (by simp) (by rw [← hown]; exact hb)).2, k4 b (by rw [← hown]; exact hb), fun k hk hb2 => h3.sep k id b (hal k hk).2 (hal k hk).1 hali hb2 (by rw [← hown]; exact hb)⟩)
    (xs := xs.take (hi * size)) (by
      refine ⟨by rw [List.length_take, hlen]; omega, ?_⟩
      rw [hlen]
      rcases hcase with ⟨h1, h2⟩ | ⟨g, cap, cur, h1, q2, q3, q4, q5, q6, q7⟩
      · injection h1 with a b c'; subst a; subst c'
        have : hi = 0 := by omega
        subst this
        exact .inl ⟨rfl, rfl⟩
      · injection h1 with a b c'; subst a; subst c'
        refine .inr ⟨g, c0, cur, rfl, q2, q3, by omega, q5, q6, ?_⟩
        rw [← q7, List.take_take, Nat.min_eq_left hmul])
    (fun d hd => k2 d (List.mem_of_mem_take hd)) (fun q u y hu hy => by
      rw [flat_take els (fun d hd => (k2 d hd).1)] at hy
      rw [List.getElem?_take] at hu hy
      split at hu
      · rename_i hq; rw [if_pos hq] at hy; exact k3 q u y hu hy
      · cases hu) ⟨_, _, _, rfl⟩
  refine ⟨h1, I, _, r2, h2, fun k => ?_⟩
  simp only [get]
  by_cases hk : j = k
  · subst hk; rw [if_pos rfl, hvj]; exact r3
  · rw [if_neg hk]; exact (h4 k).mono r1
end
def boolS (s : Spec) (caps : List D) (d : D) : Bool := match s (d :: caps) with | some (.bool b, _) => b | _ => false
def okB (s : Spec) (caps : List D) (d : D) : Prop := ∃ b ob, s (d :: caps) = some (.bool b, ob) ∧ ob
theorem okB_eq {s : Spec} {caps : List D} {d : D} (h : okB s caps d) : ∃ ob, ob ∧ s (d :: caps) = some (.bool (boolS s caps d), ob) := by
  obtain ⟨b, ob, h1, h2⟩ := h
  exact ⟨ob, h2, by unfold boolS; rw [h1]⟩
def delRow (s : Spec) (caps els : List D) : List D := els.filter fun d => !boolS s caps d
def delOk (s : Spec) (caps els : List D) : Prop := ∀ d ∈ els, okB s caps d
def delO {α : Type} (p : α → Option Bool) (xs : List α) : Option (List α) := if xs.all (fun x => (p x).isSome) = true then some (xs.filter fun x => !((p x).getD false)) else none
theorem delO_some {α : Type} [Enc α] {p : α → Option Bool} {s : Spec} {caps : List D} {xs ys : List α} (h : delO p xs = some ys) (hs : ∀ x b, p x = some b → ∃ ob, s (enc x :: caps) = some (.bool b, ob) ∧ ob) :
    delRow s caps (xs.map enc) = ys.map enc ∧ delOk s caps (xs.map enc) := by
  unfold delO at h
  split at h
  · rename_i hall
    injection h with h; subst h
    rw [List.all_eq_true] at hall
    have hb : ∀ x ∈ xs, ∃ ob, s (enc x :: caps) = some (.bool ((p x).getD false), ob) ∧ ob := fun x hx => by
      obtain ⟨b, hb⟩ := Option.isSome_iff_exists.1 (hall x hx)
      rw [hb]; exact hs x b hb
    refine ⟨?_, fun d hd => ?_⟩
    · unfold delRow
      rw [List.filter_map]
      congr 1
      refine List.filter_congr fun x hx => ?_
      obtain ⟨ob, h1, _⟩ := hb x hx
      simp only [Function.comp, boolS, h1]
    · obtain ⟨x, hx, rfl⟩ := List.mem_map.1 hd
      obtain ⟨ob, h1, h2⟩ := hb x hx
      exact ⟨_, ob, h1, h2⟩
  · cases h
theorem spec2_bool {α β : Type} [Enc α] [Enc β] {p : α → β → Option Bool} {x : α} {c : β} {b : Bool} (h : p x c = some b) : ∃ ob, specO2 (fun (a : α) (c : β) => (p a c).map fun r => enc r) [enc x, enc c] = some (.bool b, ob) ∧ ob := by
  refine ⟨_, by simp only [specO2, dec_enc, h, Option.map_some, opD, Option.getD_some]; rfl, ?_⟩
  simp
theorem argsD_caps (l : List AO) : ∀ (caps : List D), argsD l (caps.map .d) = some (caps, l)
  | [] => rfl
  | c :: caps => by simp only [List.map_cons, argsD, toD, toD1, argsD_caps l caps]
theorem quiet_caps (l : List AO) (caps : List D) : (caps.map T.d).all (quietT l) = true := by
  rw [List.all_eq_true]; intro x hx; obtain ⟨c, _, rfl⟩ := List.mem_map.1 hx; rfl
theorem low1_mono {k k' : Nat} (h : k ≤ k') {t : T} (ht : t.low1 k = true) : t.low1 k' = true := by
  cases t <;> simp only [T.low1, decide_eq_true_eq] at ht ⊢ <;> first | exact ht | omega | cases ht
theorem lows_mono {k k' : Nat} (h : k ≤ k') {t : T} (ht : t.lows k = true) : t.lows k' = true := by
  cases t <;> simp only [T.lows, decide_eq_true_eq] at ht ⊢ <;> first | exact ht | omega | skip
  rw [List.all_eq_true] at *
  exact fun x hx => low1_mono h (ht x hx)
theorem alows_mono {k k' : Nat} (h : k ≤ k') {o : AO} (ho : o.lows k = true) : o.lows k' = true := by
  cases o <;> simp only [AO.lows, decide_eq_true_eq] at ho ⊢ <;> first | exact ho | omega | skip
  rw [List.all_eq_true] at *
  exact fun x hx => lows_mono h (ho x hx)
def Low (l : List AO) : Prop := l.all (AO.lows l.length) = true
theorem Low.frame {l : List AO} (h : Low l) (vals : Nat → Value) (ft : Tm) : Low (l ++ [.frame l.length vals ft]) := by
  unfold Low at *
  rw [List.all_append]
  simp only [List.length_append, List.length_singleton, List.all_cons, List.all_nil, Bool.and_true, Bool.and_eq_true]
  refine ⟨?_, by simp [AO.lows]⟩
  rw [List.all_eq_true] at *
  exact fun o ho => alows_mono (Nat.le_succ _) (h o ho)
theorem Low.set {l : List AO} (h : Low l) (id : Nat) {o : AO} (ho : o.lows l.length = true) : Low (l.set id o) := by
  unfold Low at *
  rw [List.all_eq_true] at *
  intro x hx
  rw [List.length_set]
  rcases List.mem_or_eq_of_mem_set hx with hx | rfl
  · exact h x hx
  · exact ho
theorem Sub.slots [Rnd] {L : List AO} {t t' : Tm} (hf : forgets t t') : Sub ⟨t, L⟩ ⟨t', L⟩ := by
  intro w0 I0 n a w hr
  obtain ⟨h1, I, m, h3, h2, h4⟩ := hr
  refine ⟨h1, I, m, h3, h2, fun j => ?_⟩
  rcases forgets_get hf j with h | h
  · rw [h]; exact .undef _
  · rw [h]; exact h4 j
theorem Sub.drop [Rnd] {L extra : List AO} {t t' : Tm} (h : Low L) (ht : t'.all (fun p => T.lows L.length p.2) = true) (hf : forgets t t') : Sub ⟨t, L ++ extra⟩ ⟨t', L⟩ :=
  Sub.cut' L.length (by simp) (by simp) (by unfold Low at h; simpa using h) ht hf
theorem get_app {L : List AO} {id : Nat} {o : AO} (h : L[id]? = some o) (x : List AO) : (L ++ x)[id]? = some o := by rw [List.getElem?_append_left (List.getElem?_eq_some_iff.1 h).1]; exact h
theorem set_last (L : List AO) (a b : AO) : (L ++ [a]).set L.length b = L ++ [b] := by simp
theorem set_front {L : List AO} {id : Nat} (h : id < L.length) (a : AO) (x : List AO) : (L ++ x).set id a = L.set id a ++ x := by simp [List.set_append, h]
end Go.Eva
namespace Go.Eva
open Go Go.RowKit Enc Go.ChangeShapes Go.WideShapes
variable [Drw]
open Classical in
noncomputable def allI (w : World) : Imm := ⟨fun b o => w.cell? ⟨b, o, none⟩, fun b => if h : ∃ es, MapAt w.heap[b]? es then some (Classical.choose h) else none, fun _ => False⟩
theorem allI_sat (w : World) (hg : ∀ g d, Drw.dat g = some d → Rd (allI w) (.pointer (some ⟨g, 0, none⟩)) (.box d)) : SatI w (allI w) := by
  refine ⟨fun _ _ _ h => h, fun b es h => ?_, fun b h => h.elim, hg⟩
  unfold allI at h
  simp only at h
  split at h
  · rename_i hx
    cases h
    exact Classical.choose_spec hx
  · cases h
theorem allI_mp {w : World} {b : Nat} {es : ME} (h : MapAt w.heap[b]? es) : (allI w).mp b = some es := by
  have hx : ∃ es, MapAt w.heap[b]? es := ⟨es, h⟩
  unfold allI
  simp only
  rw [dif_pos hx]
  have hc := Classical.choose_spec hx
  have := hc.1.symm.trans h.1
  simp only [Option.some.injEq, Obj.map.injEq] at this
  rw [Prod.ext this.1 this.2]
theorem cells_nil (I : Imm) {cs : List Value} {n : Nat} (h : cs.length = n) : Cells I (cs.drop n) [] := by
  refine ⟨by simp [h], by simp, fun i v d _ hd => by simp at hd⟩
theorem cells_cons {I : Imm} {cs : List Value} {o s : Nat} {ys zs : List D} (h1 : Cells I ((cs.drop o).take s) ys) (h2 : Cells I (cs.drop (o + s)) zs) : Cells I (cs.drop o) (ys ++ zs) := by
  have e : cs.drop o = (cs.drop o).take s ++ cs.drop (o + s) := by rw [← List.drop_drop, List.take_append_drop]
  rw [e]
  obtain ⟨a1, a2, a3⟩ := h1
  obtain ⟨b1, b2, b3⟩ := h2
  refine ⟨by simp only [List.length_append, a1, b1], fun d hd => (List.mem_append.1 hd).elim (a2 d) (b2 d), fun i v d hv hd => ?_⟩
  by_cases hi : i < ys.length
  · rw [List.getElem?_append_left (by omega)] at hv
    rw [List.getElem?_append_left hi] at hd
    exact a3 i v d hv hd
  · rw [List.getElem?_append_right (by omega), a1] at hv
    rw [List.getElem?_append_right (by omega)] at hd
    exact b3 _ v d hv hd
theorem cells_one {I : Imm} {v : Value} {d : D} (hd : d.one = true) (h : Rd I v d) : Cells I [v] [d] :=
  ⟨rfl, by simpa using hd, fun i x y hx hy => by
    rcases i with _ | i
    · simp at hx hy; subst hx; subst hy; exact h
    · simp at hx⟩
theorem addr_add (b o k : Nat) : (⟨b, o, none⟩ : Addr).add k = ⟨b, o + k, none⟩ := by
  unfold Addr.add; split
  · rename_i h; subst h; rfl
  · rfl
def Opens (P : Program) (t : TypeId) (α : Type) [Enc α] (good : (H : Type) → DataW H → α → Prop) : Prop :=
  ∀ (H : Type) (en : TypeId × Value → H) (w : World) (base : Nat) (spare : Nat → Bool) (held : Bool) (fuel : Nat) (cs : List Value) (x : DataW H × List MemPlace),
    DataW.trod en P w base spare held fuel t cs = some x → ∃ a : α, good H x.1 a ∧ Cells (allI w) cs (enc a).cells
def goodL {α : Type} (good : (H : Type) → DataW H → α → Prop) (H : Type) (d : DataW H) (l : List α) : Prop :=
  l.length ≤ maxLen ∧ (l = [] ∨ ∃ elems spare, d = .slice elems spare ∧ elems.length = l.length ∧ ∀ (i : Nat) a, l[i]? = some a → ∃ d', elems[i]? = some d' ∧ good H d' a)
section
variable {P : Program} {t e : TypeId}
theorem opens_int (ht : P.underlying t = some (.int .i64)) : Opens P t Int fun _ _ n => -9223372036854775808 ≤ n ∧ n ≤ 9223372036854775807 := by
  intro H en w base spare held fuel cs x h
  obtain ⟨n, rfl, _, hw⟩ := DataW.trod_int ht h
  refine ⟨n, ?_, cells_one rfl (.int _ _)⟩
  simp only [Lit.wf, IntKind.has, IntKind.min, IntKind.max, IntKind.signed, IntKind.bits, Bool.and_eq_true, decide_eq_true_eq] at hw
  simp at hw
  omega
theorem opens_intk {k : IntKind} (ht : P.underlying t = some (.int k)) : Opens P t (IntK k) fun _ _ n => (Lit.int k n.n).wf = true := by
  intro H en w base spare held fuel cs x h
  obtain ⟨n, rfl, _, hw⟩ := DataW.trod_int ht h
  exact ⟨⟨n⟩, hw, cells_one rfl (.int _ _)⟩
theorem opens_bool (ht : P.underlying t = some .bool) : Opens P t Bool fun _ _ _ => True := by
  intro H en w base spare held fuel cs x h
  obtain ⟨n, rfl, _⟩ := DataW.trod_bool ht h
  exact ⟨n, trivial, cells_one rfl (.bool _)⟩
theorem opens_str (ht : P.underlying t = some .string) : Opens P t ByteArray fun _ _ s => s.size ≤ maxLen := by
  intro H en w base spare held fuel cs x h
  obtain ⟨n, rfl, _, hs⟩ := DataW.trod_string ht h
  exact ⟨n, hs, cells_one rfl (.str _)⟩
theorem opens_slice {α : Type} [Enc α] {good : (H : Type) → DataW H → α → Prop} (ht : P.underlying t = some (.slice e)) (hsz : P.cellsOf e = size α) (hpos : 0 < P.cellsOf e) (ho : Opens P e α good) : Opens P t (List α) (goodL good) := by
  intro H en w base spare held fuel cs x h
  have hpos' : 0 < size α := by rw [← hsz]; exact hpos
  rcases Go.Deep.open_slice ht h with ⟨rfl, _⟩ | ⟨a, len, cap, m, n, D0, Pl, rfl, _, hl, hm, hmm, hx0, hi⟩
  · exact ⟨[], ⟨Nat.zero_le _, .inl rfl⟩, cells_one rfl (.slice0 _ _ _ (Nat.zero_le _))⟩
  · have hlm : len ≤ m := by rw [hmm]; split <;> omega
    rcases Nat.eq_zero_or_pos len with h0 | h0
    · subst h0
      exact ⟨[], ⟨Nat.zero_le _, .inl rfl⟩, cells_one rfl (.slice0 _ _ _ hm)⟩
    · have hel : ∀ i, i < len → ∃ (y : α) (cs' : List Value), good H (D0 i) y ∧ (∀ j, j < size α → w.cell? (a.add (i * size α + j)) = cs'[j]?) ∧ cs'.length = size α ∧ Cells (allI w) cs' (enc y).cells := fun i hil => by
        obtain ⟨cs', hc, ht'⟩ := hi i (by omega)
        obtain ⟨y, hy, hcs⟩ := ho H en w base spare held n cs' _ ht'
        rw [hsz] at hc
        obtain ⟨_, hcl, hat⟩ := World.cells?_some hc
        exact ⟨y, cs', hy, fun j hj => by rw [← hat j hj, Go.Deep.add_add], hcl, hcs⟩
      obtain ⟨b, off, spot⟩ := a
      have hspot : spot = none := by
        obtain ⟨y, cs', _, hat, hcl, _⟩ := hel 0 h0
        have h1 := hat 0 hpos'
        rw [List.getElem?_eq_getElem (by omega)] at h1
        simpa [Addr.add] using World.cell?_spot h1
      subst hspot
      have hex : ∀ k, k ≤ len → ∃ l : List α, l.length = k ∧ (∀ (i : Nat) y, l[i]? = some y → good H (D0 i) y) ∧ ∀ (i : Nat) (y : α), l[i]? = some y → ∀ j, j < size α → ∃ v d, w.cell? ⟨b, off + (i * size α + j), none⟩ = some v ∧ (enc y).cells[j]? = some d ∧ Rd (allI w) v d := by
        intro k
        induction k with
        | zero => exact fun _ => ⟨[], rfl, by simp, by simp⟩
        | succ k ih =>
          intro hk
          obtain ⟨l, h1, h2, h3⟩ := ih (by omega)
          obtain ⟨y, cs', hy, hat, hcl, hcs⟩ := hel k (by omega)
          refine ⟨l ++ [y], by simp [h1], fun i z hz => ?_, fun i z hz j hj => ?_⟩
          · by_cases hil : i < l.length
            · rw [List.getElem?_append_left hil] at hz
              exact h2 i z hz
            · rw [List.getElem?_append_right (by omega)] at hz
              have hik : i = k := by
                have := (List.getElem?_eq_some_iff.1 hz).1
                simp at this; omega
              subst hik
              rw [h1] at hz
              simp at hz
              subst hz
              exact hy
          · by_cases hil : i < l.length
            · rw [List.getElem?_append_left hil] at hz
              exact h3 i z hz j hj
            · rw [List.getElem?_append_right (by omega)] at hz
              have hik : i = k := by
                have := (List.getElem?_eq_some_iff.1 hz).1
                simp at this; omega
              subst hik
              rw [h1] at hz
              simp at hz
              subst hz
              have hv : cs'[j]? = some (cs'[j]'(by omega)) := List.getElem?_eq_getElem (by omega)
              have hd : (enc y).cells[j]? = some ((enc y).cells[j]'(by rw [Enc.len]; exact hj)) := List.getElem?_eq_getElem _
              refine ⟨_, _, ?_, hd, hcs.2.2 j _ _ hv hd⟩
              have := hat j hj
              rw [hv, addr_add] at this
              exact this
      obtain ⟨l, h1, h2, h3⟩ := hex len (Nat.le_refl _)
      refine ⟨l, ⟨by omega, .inr ⟨(List.range len).map D0, (List.range (m - len)).map fun j => D0 (len + j), by rw [hx0], by simp [h1], fun i y hy => ⟨D0 i, ?_, h2 i y hy⟩⟩⟩, cells_one rfl ?_⟩
      · have : i < len := by rw [← h1]; exact (List.getElem?_eq_some_iff.1 hy).1
        rw [List.getElem?_map, List.getElem?_range this]; rfl
      rw [enc_list]
      have hflen : (flat (l.map (enc : α → D))).length = len * size α := by
        rw [flat_len (l.map (enc : α → D)) (size := size α) fun d hd => by obtain ⟨y, _, rfl⟩ := List.mem_map.1 hd; exact Enc.len y]
        simp [h1]
      have hfl : ∀ k, k < len * size α → ∃ v d, w.cell? ⟨b, off + k, none⟩ = some v ∧ (flat (l.map (enc : α → D)))[k]? = some d ∧ Rd (allI w) v d := fun k hk => by
        have hi : k / size α < len := (Nat.div_lt_iff_lt_mul hpos').2 hk
        have hj : k % size α < size α := Nat.mod_lt _ hpos'
        have hy : l[k / size α]? = some (l[k / size α]'(by omega)) := List.getElem?_eq_getElem (by omega)
        obtain ⟨v, d, k1, k2, k3⟩ := h3 _ _ hy _ hj
        refine ⟨v, d, ?_, ?_, k3⟩
        · rw [Nat.mul_comm, Nat.div_add_mod] at k1; exact k1
        · rw [show k = k / size α * size α + k % size α by rw [Nat.mul_comm]; exact (Nat.div_add_mod k (size α)).symm]
          rw [flat_get (l.map (enc : α → D)) (fun d hd => by obtain ⟨y, _, rfl⟩ := List.mem_map.1 hd; exact Enc.len y) _ _ (enc (l[k / size α]'(by omega))) (by rw [List.getElem?_map, hy]; rfl) hj]
          exact k2
      refine .slice b off len cap (size α) _ (fun k => (w.cell? ⟨b, off + k, none⟩).getD undef) (by simp [h1]) hl hm (fun d hd => ?_) (fun k hk => ?_) (fun k x hx => ?_)
      · obtain ⟨y, _, rfl⟩ := List.mem_map.1 hd
        exact ⟨Enc.len y, Enc.ones y⟩
      · obtain ⟨v, d, k1, _, _⟩ := hfl k hk
        show w.cell? ⟨b, off + k, none⟩ = _
        simp [k1]
      · have hk : k < len * size α := by rw [← hflen]; exact (List.getElem?_eq_some_iff.1 hx).1
        obtain ⟨v, d, k1, k2, k3⟩ := hfl k hk
        rw [hx] at k2; cases k2
        simpa [k1] using k3
theorem notAgg {W : World} {r : Reach} {b : Nat} {v : Value} (h : Value.okWide P W r b t v) (hk : (match P.underlying t with | some (.struct _) | some (.array _ _) => false | _ => true) = true) : ∀ cs, v ≠ .agg cs := by
  rintro cs rfl
  cases hu : P.underlying t with
  | none => simp [Value.okWide, hu, Cell.okWide, Cell.ok] at h
  | some d =>
    rw [hu] at hk
    cases d <;> first | (simp [Value.okWide, hu, Cell.okWide, Cell.ok] at h; done) | (simp at hk; done)
variable {H : Type} {en : TypeId × Value → H} {W : World} {base : Nat} {sp : Nat → Bool} {held : Bool} {v : Value} {d : DataW H} {ps : List MemPlace} {α : Type} [Enc α] {good : (H : Type) → DataW H → α → Prop}
theorem arg_one (hO : Opens P t α good) (h1 : ∀ a : α, (enc a).cells = [enc a]) {r : Reach} {b : Nat} (hok : Value.okWide P W r b t v) (hk : (match P.underlying t with | some (.struct _) | some (.array _ _) => false | _ => true) = true)
    (h : DataW.Trod en P W base sp held t v d ps) : ∃ a : α, good H d a ∧ Rd (allI W) v (enc a) := by
  obtain ⟨fuel, hf⟩ := h
  have hna := notAgg hok hk
  have hc : v.cells.toList = [v] := by cases v <;> first | rfl | exact absurd rfl (hna _)
  rw [hc] at hf
  obtain ⟨a, ha, hcs⟩ := hO H en W base sp held fuel _ _ hf
  rw [h1] at hcs
  exact ⟨a, ha, hcs.2.2 0 _ _ rfl rfl⟩
theorem arg_agg (hO : Opens P t α good) (h1 : ∀ a : α, enc a = .agg (enc a).cells) {fs : Array Field} (ht : P.underlying t = some (.struct fs)) {r : Reach} {b : Nat} (hok : Value.okWide P W r b t v)
    (h : DataW.Trod en P W base sp held t v d ps) : ∃ a : α, good H d a ∧ Rd (allI W) v (enc a) := by
  obtain ⟨fuel, hf⟩ := h
  obtain ⟨cs, rfl, _⟩ := okWide_struct ht hok
  obtain ⟨a, ha, hcs⟩ := hO H en W base sp held fuel _ _ hf
  refine ⟨a, ha, ?_⟩
  rw [h1]
  exact .agg cs _ (by have := hcs.1; simpa [Value.cells] using this) hcs.2.1 fun i v d hv hd => hcs.2.2 i v d (by simpa [Value.cells] using hv) hd
end
theorem trodAll_below {H : Type} {en : TypeId × Value → H} {P : Program} (hl : laidOutB P = true) {W W' : World} (hb : Below W.heap.size W W') :
    ∀ {ts : List TypeId} {vs : List Value} {ds : List (DataW H)} {ps : List MemPlace}, (ts.all fun t => P.readableRec t && decide (t < P.types.size)) = true → DataW.TrodAll en P W 0 (fun _ => true) true ts vs ds ps → (∀ x ∈ ps, x.block < W.heap.size) → DataW.TrodAll en P W' 0 (fun b => decide (b < W.heap.size)) true ts vs ds ps
  | [], [], [], _, _, h, _ => h
  | t :: ts, v :: vs, d :: ds, _, ht, ⟨p, q, h1, h2, e⟩, hlt => by
    simp only [List.all_cons, Bool.and_eq_true, decide_eq_true_eq] at ht
    exact ⟨p, q, Below.trod hl ht.1.1 ht.1.2 h1 hb (fun x hx => hlt x (by rw [e]; exact List.mem_append_left _ hx)), trodAll_below hl hb ht.2 h2 (fun x hx => hlt x (by rw [e]; exact List.mem_append_right _ hx)), e⟩
  | [], _ :: _, _, _, _, h, _ => h.elim
  | [], [], _ :: _, _, _, h, _ => h.elim
  | _ :: _, [], _, _, _, h, _ => h.elim
  | _ :: _, _ :: _, [], _, _, h, _ => h.elim
theorem run_of {P : Program} {f : FuncId} {ds : List D} {r : D} (h : PureCon P f ds r) {W : World} (hg : ∀ g d, Drw.dat g = some d → Rd (allI W) (.pointer (some ⟨g, 0, none⟩)) (.box d)) {vs : Array Value} (hs : vs.size = ds.length) (hr : ∀ (i : Nat) v d, vs[i]? = some v → ds[i]? = some d → Rd (allI W) v d) :
    Calls P f vs W fun e w' => ∃ v J, e = .returned v ∧ Below W.heap.size W w' ∧ Rd J v r :=
  (h W (allI W) vs (allI_sat W hg) hs hr).mono fun _ _ ⟨v, J, h1, h2, _, _, h5⟩ => ⟨v, J, h1, h2.below, h5⟩
end Go.Eva
namespace Go.Eva
open Go Go.RowKit Enc Go.Proofs Go.Sort
variable [Drw]
theorem mapBlock_setRow (w : World) (b : Nat) (f : Array Value → Array Value) (cur : Array Value) (e : TypeId) (fr : Nat × Nat) (h : w.heap[b]? = some (.cells cur e fr)) : mapBlock w b f = w.setRow b (f cur) := by
  unfold mapBlock World.setRow
  congr 1
  apply Array.ext_getElem?
  intro k
  simp only [Array.getElem?_modify]
  by_cases hk : b = k
  · subst hk; simp [h, onCells]
  · simp [hk]
theorem putCells_list (F cur : Array Value) (hF : F.size ≤ cur.size) : (putCells (fun v => v) 0 F cur).toList = F.toList ++ cur.toList.drop F.size := by
  apply List.ext_getElem?
  intro i
  have h1 : (putCells (fun v => v) 0 F cur).toList[i]? = (cur[i]?).map fun x => if i < F.size then F[i]! else x := by
    rw [Array.getElem?_toList]
    unfold putCells
    rw [Array.getElem?_mapIdx]
    simp
  rw [h1, List.getElem?_append]
  by_cases hi : i < F.size
  · have : i < cur.size := by omega
    simp [hi, this]
  · simp [hi, List.getElem?_drop, show F.size + (i - F.size) = i by omega]
theorem flatK_list {α : Type} [Inhabited α] (venc : α → List Value) (k : Nat) (hv : ∀ x, (venc x).length = k) (d : Array α) : (flatK venc k d).toList = d.toList.flatMap venc := by
  apply List.ext_getElem?
  intro i
  have hfl : ∀ (l : List α) (i : Nat), (l.flatMap venc)[i]? = (l[i / k]?).bind fun x => (venc x)[i % k]? := by
    intro l
    induction l with
    | nil => intro i; simp
    | cons x l ih =>
      intro i
      rw [List.flatMap_cons, List.getElem?_append, hv]
      by_cases hi : i < k
      · rw [if_pos hi, Nat.div_eq_of_lt hi, Nat.mod_eq_of_lt hi]; simp
      · rw [if_neg hi, ih]
        have hk : 0 < k ∨ k = 0 := by omega
        rcases hk with hk | hk
        · have e1 : i / k = (i - k) / k + 1 := by rw [Nat.div_eq_sub_div hk (by omega)]
          have e2 : i % k = (i - k) % k := by rw [Nat.mod_eq_sub_mod (by omega)]
          rw [e1, e2]; simp
        · subst hk
          have hz : ∀ y : α, venc y = [] := fun y => List.eq_nil_of_length_eq_zero (hv y)
          simp [hz]
  rw [hfl]
  have hsz : (flatK venc k d).toList.length = d.size * k := by simp
  by_cases hi : i < d.size * k
  · have hk : 0 < k := by rcases Nat.eq_zero_or_pos k with h | h; · subst h; simp at hi
                          · exact h
    have hd : i / k < d.size := (Nat.div_lt_iff_lt_mul hk).2 hi
    have hm : i % k < k := Nat.mod_lt _ hk
    have hg := get_flatK venc k d i hi
    rw [Array.getElem?_toList, Array.getElem?_eq_getElem (by simpa using hi), Array.getElem?_toList, Array.getElem?_eq_getElem hd]
    rw [getElem!_pos _ i (by simpa using hi), getElem!_pos d _ hd] at hg
    rw [hg]
    simp only [Option.bind_some]
    rw [getElem!_pos _ _ (by rw [hv]; exact hm), List.getElem?_eq_getElem (by rw [hv]; exact hm)]
  · rw [List.getElem?_eq_none (by rw [hsz]; omega)]
    rcases Nat.eq_zero_or_pos k with h | h
    · subst h
      have hz : ∀ y : α, venc y = [] := fun y => List.eq_nil_of_length_eq_zero (hv y)
      cases d.toList[i / 0]? <;> simp [hz]
    · rw [List.getElem?_eq_none (by rw [Array.length_toList]; exact (Nat.le_div_iff_mul_le h).2 (by omega))]; rfl
section
variable {P : Program} {V : Env} {w0 w : World} {I0 I : Imm} {m : Nat → Value} {l : List AO} {α : Type} [Inhabited α]
theorem WRel.grown (h : WRel w0 I0 w I m l) (q : Nat) (os : Array Obj) : WRel w0 I0 (grow (w.drewN q) os) I m l ∧ Le I m l I m l := by
  have hb : ∀ k, k < w.heap.size → (grow (w.drewN q) os).heap[k]? = w.heap[k]? := fun k hk => by simp [grow, Array.getElem?_append, hk]
  refine h.call ⟨rfl, rfl, rfl, by simp [grow], fun k hk => hb k hk, fun _ => by simp [grow, World.drewN]⟩ (ExtI.refl _ _) ⟨fun b o v hc => ?_, fun b es hc => ?_, fun b hd => (hb b (h.sat.ltd hd)).trans (h.sat.df b hd), h.sat.glob⟩
  · exact (World.cell?_of_block (w := w) (a := ⟨b, o, none⟩) (hb b (h.sat.lt hc))).trans (h.sat.cell b o v hc)
  · have hh := h.sat.mp b es hc
    exact MapAt.to (hb b (h.sat.ltm hc)) hh
theorem WRel.sorted (hrel : WRel w0 I0 w I m l) {id b c e size : Nat} {els : List D} {ys : List α} {venc : α → List Value} {denc : α → D} (ho : l[id]? = some (.row e size els)) (hm : m id = .slice (some ⟨b, 0, none⟩) els.length c)
    (hlen : ys.length = els.length) (hv : ∀ x, (venc x).length = size) (hd : ∀ x, (denc x).cells.length = size ∧ ∀ y ∈ (denc x).cells, y.one = true) (hvd : ∀ x (j : Nat) u y, (venc x)[j]? = some u → (denc x).cells[j]? = some y → Rd I u y) (q : Nat) (os : Array Obj) :
    Le I m l I m (l.set id (.row e size (ys.map denc))) ∧ WRel w0 I0 (sortWorldK venc size w b 0 q ys.toArray os) I m (l.set id (.row e size (ys.map denc))) := by
  obtain ⟨xs, k1, k2, k3, k4⟩ := hrel.obj id _ ho
  rw [hm] at k1
  obtain ⟨hxl, hcase⟩ := k1
  rcases hcase with ⟨hv0, _⟩ | ⟨g, cap, cur, hv0, hb, hg, hnc, hcap, hcs, htk⟩
  · cases hv0
  injection hv0 with hv1 hv2 hv3
  injection hv1 with hv1; injection hv1 with hv1; subst hv1; subst hv3
  have hF : (flatK venc size ys.toArray).size = els.length * size := by simp [hlen]
  have hFl : (flatK venc size ys.toArray).toList = ys.flatMap venc := by rw [flatK_list venc size hv]
  have hle : els.length * size ≤ cur.size := by rw [hcs]; exact Nat.mul_le_mul_right _ hnc
  have hcells := putCells_list (flatK venc size ys.toArray) cur (by rw [hF]; exact hle)
  have hww : sortWorldK venc size w b 0 q ys.toArray os = grow ((w.setRow b (putCells (fun v => v) 0 (flatK venc size ys.toArray) cur)).drewN q) os := by
    unfold sortWorldK putRowK putRow
    have hg' : (Sort.ahead w q).heap[b]? = some (.cells cur e (0, 0)) := hg
    rw [mapBlock_setRow _ b _ cur e (0, 0) hg']
    rfl
  generalize hnew : putCells (fun v => v) 0 (flatK venc size ys.toArray) cur = new at hcells hww
  have hns : new.size = cur.size := by rw [← hnew]; simp [putCells]
  have hfl : flat (ys.map denc) = ys.flatMap fun x => (denc x).cells := by simp [flat, List.flatMap_map]
  have f1 : (ys.flatMap venc).length = (ys.map denc).length * size := by rw [← hFl, Array.length_toList, hF, List.length_map, hlen]
  have f2 : new.toList.take ((ys.map denc).length * size) = ys.flatMap venc := by
    rw [hcells, List.length_map, hlen, ← hF, List.take_append_of_le_length (by rw [Array.length_toList]; exact Nat.le_refl _), List.take_of_length_le (by rw [Array.length_toList]; exact Nat.le_refl _), hFl]
  have f3 : ∀ d ∈ ys.map denc, d.cells.length = size ∧ ∀ x ∈ d.cells, x.one = true := by
    intro d hdm
    obtain ⟨x, _, rfl⟩ := List.mem_map.1 hdm
    exact hd x
  have f4 : ∀ (j : Nat) u y, (ys.flatMap venc)[j]? = some u → (flat (ys.map denc))[j]? = some y → Rd I u y := by
    intro j u y hu hy
    rw [hfl] at hy
    have key : ∀ (zs : List α) (j : Nat), (zs.flatMap venc)[j]? = some u → (zs.flatMap fun x => (denc x).cells)[j]? = some y → Rd I u y := by
      intro zs
      induction zs with
      | nil => intro j hu; simp at hu
      | cons z zs ih =>
        intro j hu hy
        rw [List.flatMap_cons, List.getElem?_append, hv] at hu
        rw [List.flatMap_cons, List.getElem?_append, (hd z).1] at hy
        by_cases hj : j < size
        · rw [if_pos hj] at hu hy; exact hvd z j u y hu hy
        · rw [if_neg hj] at hu hy; exact ih _ hu hy
    exact key ys j hu hy
  obtain ⟨h1, h2⟩ := hrel.turnRow (n := els.length) (c := c) (cur := cur) (new := new) (xs := ys.flatMap venc) (els' := ys.map denc) ho hm hg ⟨f1, .inr ⟨b, c, new, by simp [hlen], hb, setRow_heap w b cur new e (0, 0) hg, by simpa [hlen] using hnc, hcap, by rw [hns, hcs], f2⟩⟩ f3 f4
  obtain ⟨h3, _⟩ := h2.grown q os
  rw [hww]
  exact ⟨h1, h3⟩
theorem grow_of_bel (hon : Drw.on) {w w' : World} (h : Bel w.heap.size w w') : ∃ q os, w' = grow (w.drewN q) os := by
  refine ⟨w'.drawn - w.drawn, w'.heap.extract w.heap.size w'.heap.size, ?_⟩
  obtain ⟨heap, tape, drawn, os, output⟩ := w'
  obtain ⟨h1, h2, h3, h4, h5, h6⟩ := h
  have h6 := h6 hon
  simp only at h1 h2 h3 h4 h5 h6
  subst h1; subst h2; subst h3
  unfold grow World.drewN
  simp only
  congr 1
  · apply Array.ext_getElem?
    intro k
    rw [Array.getElem?_append]
    split
    · rename_i hk; exact h5 k hk
    · rename_i hk
      simp only [Array.getElem?_extract]
      by_cases hk2 : k < heap.size
      · have : w.heap.size + (k - w.heap.size) = k := by omega
        rw [this]; simp; omega
      · rw [Array.getElem?_eq_none (by omega)]; simp; omega
  · omega
def Imm.none : Imm := ⟨fun _ _ => Option.none, fun _ => Option.none, fun _ => False⟩
def NoGlob : Prop := ∀ g, Drw.dat g = Option.none
theorem SatI.none (hg : NoGlob) (w : World) : SatI w Imm.none := ⟨fun _ _ _ h => (by cases h), fun _ _ h => (by cases h), fun _ h => h.elim, fun g d h => (by rw [hg g] at h; cases h)⟩
theorem cmpLays_of (hg : NoGlob) (hon : Drw.on) {P : Program} {g k : Nat} {venc : α → List Value} {denc : α → D} {cf : α → α → Int} (hcon : ∀ x y, PureCon P g [denc x, denc y] (.int .i64 (cf x y))) (hag : ∀ x, Rd Imm.none (.agg (venc x).toArray) (denc x)) (blk off size : Nat) (w : World) :
    CmpLays P g #[] venc k cf blk off size w := by
  intro mm os dk hs x y
  refine (hcon x y _ Imm.none #[.agg (venc x).toArray, .agg (venc y).toArray] (SatI.none hg _) rfl ?_).mono ?_
  · intro i v d hv hd
    rcases i with _ | _ | i
    · simp at hv hd; subst hv; subst hd; exact hag x
    · simp at hv hd; subst hv; subst hd; exact hag y
    · simp at hv
  · rintro e w' ⟨v, J, he, hb, _, _, hr⟩
    cases hr
    exact ⟨he, grow_of_bel hon hb⟩
theorem cmpLays_of' (hon : Drw.on) {P : Program} {g k : Nat} {venc : α → List Value} {denc : α → D} {cf : α → α → Int} (hcon : ∀ x y, PureCon P g [denc x, denc y] (.int .i64 (cf x y))) (hag : ∀ I x, Rd I (.agg (venc x).toArray) (denc x)) {blk off size : Nat} {w : World}
    (hsat : ∀ (mm : Nat) (os : Array Obj) (dk : Array α), dk.size = size → ∃ I, SatI (sortWorldK venc k w blk off mm dk os) I) : CmpLays P g #[] venc k cf blk off size w := by
  intro mm os dk hs x y
  obtain ⟨I, hI⟩ := hsat mm os dk hs
  refine (hcon x y _ I #[.agg (venc x).toArray, .agg (venc y).toArray] hI rfl ?_).mono ?_
  · intro i v d hv hd
    rcases i with _ | _ | i
    · simp at hv hd; subst hv; subst hd; exact hag I x
    · simp at hv hd; subst hv; subst hd; exact hag I y
    · simp at hv
  · rintro e w' ⟨v, J, he, hb, _, _, hr⟩
    cases hr
    exact ⟨he, grow_of_bel hon hb⟩
theorem sort_fcon {P : Program} {g cmp : Nat} {e size : Nat} {venc : α → List Value} {denc : α → D} {S : Array α → Array α} (hS : ∀ d, (S d).size = d.size)
    (hcon : ∀ (b c : Nat) (d : Array α) (w : World), HoldsK venc size w b 0 d → b < w.heap.size → d.size < 4611686018427387904 → (∀ (mm : Nat) (os : Array Obj) (dk : Array α), dk.size = d.size → ∃ I, SatI (sortWorldK venc size w b 0 mm dk os) I) → Calls P g #[.slice (some ⟨b, 0, none⟩) d.size c, .func (.func cmp) #[] #[]] w fun e w' => e = .returned (.tuple #[]) ∧ ∃ n os, w' = sortWorldK venc size w b 0 n (S d) os)
    (hnil : ∀ (p : Option Addr) (c : Nat) (fv : Value) (w : World), Calls P g #[.slice p 0 c, fv] w fun e w' => e = .returned (.tuple #[]) ∧ w' = w)
    (hv : ∀ x, (venc x).length = size) (hd : ∀ x, (denc x).cells.length = size ∧ ∀ y ∈ (denc x).cells, y.one = true) (hvd : ∀ (I : Imm) x (j : Nat) u y, (venc x)[j]? = some u → (denc x).cells[j]? = some y → Rd I u y) (hdv : ∀ (I : Imm) x (j : Nat) u y, (denc x).cells[j]? = some y → Rd I u y → (venc x)[j]? = some u)
    {l : List AO} {id : Nat} {xs : List α} (ho : l[id]? = some (.row e size (xs.map denc))) (hx : xs.length < 4611686018427387904) :
    FCon P g [.row id, .d (.fn cmp)] l (.d (.tup [])) (l.set id (.row e size ((S xs.toArray).toList.map denc))) := by
  intro w0 I0 w I m args hrel hsz hargs
  obtain ⟨v0, v1, rfl⟩ : ∃ v0 v1, args = #[v0, v1] := by
    match args, hsz with
    | ⟨[a, b]⟩, _ => exact ⟨a, b, rfl⟩
  have h0 := hargs 0 v0 (.row id) rfl rfl
  have h1 := rdD (hargs 1 v1 (.d (.fn cmp)) rfl rfl)
  cases h1
  obtain ⟨ys, k1, k2, k3, k4⟩ := hrel.obj id _ ho
  obtain ⟨A, n, c, hv0, hm⟩ : ∃ A n c, v0 = .slice A n c ∧ m id = v0 := by
    cases h0 with
    | row A n c _ p1 p2 => exact ⟨A, n, c, rfl, p2 (by simp [isRow, ho, AO.isRow])⟩
  rw [hm, hv0] at k1
  obtain ⟨hxl, hcase⟩ := k1
  have hidl : id < l.length := (List.getElem?_eq_some_iff.1 ho).1
  rcases hcase with ⟨hs, hn0⟩ | ⟨b, cap, cur, hs, hb, hg, hnc, hcap, hcs, htk⟩
  · injection hs with q1 q2 q3; subst q1; subst q2; subst q3
    have hxs : xs = [] := by simpa using hn0
    subst hxs
    subst hv0
    refine (hnil none 0 _ w).mono ?_
    rintro e' w' ⟨he, hw⟩
    subst hw
    have hS0 : (S ([] : List α).toArray).toList = [] := by have := hS ([] : List α).toArray; exact List.eq_nil_of_length_eq_zero (by rw [Array.length_toList, this]; rfl)
    have hset : l.set id (.row e size ((S ([] : List α).toArray).toList.map denc)) = l := by
      rw [hS0]
      apply List.ext_getElem?
      intro k
      rw [List.getElem?_set]
      by_cases hk : id = k
      · subst hk; rw [if_pos rfl, if_pos hidl, ho]
      · rw [if_neg hk]
    rw [hset]
    exact ⟨_, he, I, m, .refl .., hrel, .d _ _ (.tup #[] [] rfl (fun i v d h => by simp at h))⟩
  · injection hs with q1 q2 q3; subst q1; subst q2; subst q3
    subst hv0
    have hlen : (xs.map denc).length = xs.toArray.size := by simp
    have hcell : ∀ j, j < xs.toArray.size * size → ∃ u, cur[j]? = some u ∧ ys[j]? = some u ∧ (flatK venc size xs.toArray)[j]! = u := by
      intro j hj
      have hj' : j < ys.length := by rw [hxl, hlen]; exact hj
      obtain ⟨z, hu⟩ : ∃ z, ys[j]? = some z := ⟨_, List.getElem?_eq_getElem hj'⟩
      have hcu : cur[j]? = some z := by
        have hu := hu
        rw [← htk, List.getElem?_take] at hu
        split at hu
        · simpa using hu
        · cases hu
      refine ⟨_, hcu, hu, ?_⟩
      have hk : 0 < size := by rcases Nat.eq_zero_or_pos size with h | h; · subst h; simp at hj
                               · exact h
      have hdv' : j / size < xs.toArray.size := (Nat.div_lt_iff_lt_mul hk).2 hj
      have hmd : j % size < size := Nat.mod_lt _ hk
      rw [get_flatK venc size xs.toArray j hj]
      have hfg := flat_get (xs.map denc) (fun d hdm => (k2 d hdm).1) (j / size) (j % size) (denc xs[j / size]) (by rw [List.getElem?_map, List.getElem?_eq_getElem (by simpa using hdv')]; rfl) hmd
      rw [Nat.mul_comm, Nat.div_add_mod] at hfg
      obtain ⟨y, hy⟩ : ∃ y, (denc xs[j / size]).cells[j % size]? = some y := ⟨_, List.getElem?_eq_getElem (by rw [(hd (xs[j / size]'(by simpa using hdv'))).1]; exact hmd)⟩
      rw [hy] at hfg
      have hrd := k3 j _ y hu hfg
      have := hdv I _ _ _ _ hy hrd
      rw [getElem!_pos xs.toArray _ hdv', getElem!_pos _ _ (by rw [hv]; exact hmd)]
      rw [List.getElem?_eq_getElem (by rw [hv]; exact hmd)] at this
      simpa using this
    have hH : HoldsK venc size w b 0 xs.toArray := by
      intro j hj
      rw [size_flatK] at hj
      obtain ⟨u, h1, _, h3⟩ := hcell j hj
      rw [h3]
      refine ⟨?_, ?_⟩
      · simp [World.cell?, hg, h1]
      · simp [World.frozen?, hg]
    have hlt : b < w.heap.size := (Array.getElem?_eq_some_iff.1 hg).1
    rw [hlen]
    refine (hcon b c xs.toArray w hH hlt (by simpa using hx) (fun mm os dk hdk => ⟨I, (hrel.sorted (ys := dk.toList) (venc := venc) (denc := denc) ho (by rw [hm]) (by rw [Array.length_toList, hdk, hlen]) hv hd (fun x j u y => hvd I x j u y) mm os).2.sat⟩)).mono ?_
    rintro e' w' ⟨he, q, os, hw⟩
    obtain ⟨g1, g2⟩ := hrel.sorted (ys := (S xs.toArray).toList) (venc := venc) (denc := denc) ho (by rw [hm]) (by rw [Array.length_toList, hS, hlen]) hv hd (fun x j u y => hvd I x j u y) q os
    refine ⟨_, he, I, m, g1, ?_, .d _ _ (.tup #[] [] rfl (fun i v d h => by simp at h))⟩
    rw [hw]; simpa using g2
end
end Go.Eva
namespace Go.Eva
open Go Go.RowKit Enc
variable [Drw] [Rnd]
section
variable {P : Program} {V : Env} {w0 : World} {I0 : Imm} {n : Nat} {Q : Exit → St → Prop} {s : St}
theorem AWp.nilCheck (hV : VOk P V) {id i j k t e size sz bt : Nat} {z els : List D} {o1 o2 : Oper} (h1 : o1.op = .move (.tmp i)) (hd1 : o1.dst = some j) (hg1 : o1.guard = none) (h2 : o2.op = .binOp .eql t (.tmp j) (.const (.slice none 0 0)) t) (hd2 : o2.dst = some k) (hg2 : o2.guard = none)
    (hjn : j < n) (hkn : k < n) (hE : V.E t = some ⟨sz, bt, z, .slice e⟩) (hs : get s.t i = .d (.slice size els))
    (hQ : ∀ b, (b = true → els = []) → Q .normal ⟨(k, .d (.bool b)) :: (j, .d (.slice size els)) :: s.t, s.l⟩) : AWp P w0 I0 n (.region id #[o1, o2] false) s Q := fun a w hr => by
  refine wpIn_region_lit (l := [o1, o2]) ?_
  unfold wpListIn
  have he : evalSeq V n [o1, o2] none [o1] s (fun q => q = ⟨(j, .d (.slice size els)) :: s.t, s.l⟩) := by
    simp [evalSeq, hg1, guardPc, opRes, evalOp, h1, evT, hs, typed, R.ok, holds, dstOk, hd1, hjn, after, putT]
  refine evalSeq_step hV hr he fun s1 a1 w1 hq hr1 => ?_
  simp only [evalSeq] at hq
  subst hq
  unfold wpListIn
  have hw : Region.wanted o2 (yielded [o1, o2].toArray a1.tmps) = true := by simp [Region.wanted, hg2]
  rw [if_pos hw]
  refine StepOk.wpIn (by simp [h2]) ?_
  obtain ⟨q1, I, m, q3, q2, q4⟩ := hr1
  have hv := rdD (by have := q4 j; simpa [get] using this)
  obtain ⟨A, c, hA⟩ := slice_form hv
  have hu := underlying_slice hV.E hE
  have hrun : (execOp a1.eval o2).run P w1 = .ok (.value (.bool A.isNone)) w1 := by
    have hev : a1.eval (.tmp j) = .slice A els.length c := by simpa [Act.eval, Array.getD_eq_getD_getElem?] using hA
    have hev2 : a1.eval (.const (.slice none 0 0)) = .slice none 0 0 := rfl
    have h3 := Lib.run_eql_slice_nil (P := P) w1 t e A els.length c 0 0 hu
    unfold execOp
    simp only [h2, hev, hev2, Sem.run_bind, eqGuard]
    simp [h3]
  rw [hrun]
  simp only [StepOk]
  unfold wpListIn
  refine ⟨_, hQ A.isNone ?_, ?_⟩
  · intro hb
    rw [hA] at hv
    cases A with
    | none =>
      generalize hl : els.length = q at hv
      cases hv
      rfl
    | some a => cases hb
  · exact ⟨by simp [hd2, Act.put, q1], I, m, q3, q2.put (.refl I), putT_ok (dst := some k) q1 (by simp [dstOk, hkn]) q4 (.d _ _ (.bool _)) |> fun h => by rw [hd2]; exact h⟩
end
def T.shift (k : Nat) : T → T
  | .row id => .row (id + k)
  | .map id => .map (id + k)
  | .d x => .d x
  | .nils s => .nils s
  | _ => .undef
def rowsOnly (lc : List AO) : Prop := ∀ o ∈ lc, o.isRow = true ∨ o = .dead
section
variable {P : Program} {w0 w w' : World} {I0 I J : Imm} {m mc : Nat → Value} {l lc : List AO}
theorem rowBase {w : World} {base base' : Nat} {e : TypeId} {size : Nat} {v : Value} {n : Nat} {xs : List Value} (h : w.ownsRow base e size v n xs) (hb : base' ≤ base) : w.ownsRow base' e size v n xs := by
  refine ⟨h.1, ?_⟩
  rcases h.2 with hn | ⟨g, cap, cur, hv, hbg, rest⟩
  · exact .inl hn
  · exact .inr ⟨g, cap, cur, hv, Nat.le_trans hb hbg, rest⟩
def joinM (k : Nat) (m mc : Nat → Value) : Nat → Value := fun i => if i < k then m i else mc (i - k)
theorem WRel.join (h : WRel w0 I0 w I m l) (hc : WRel w I w' J mc lc) (hr : rowsOnly lc) : Le I m l J (joinM l.length m mc) (l ++ lc) ∧ WRel w0 I0 w' J (joinM l.length m mc) (l ++ lc) := by
  obtain ⟨h1, hle1⟩ := h.call hc.below hc.ext hc.sat
  have hlt : ∀ id, id < l.length → joinM l.length m mc id = m id := fun id hid => by simp [joinM, hid]
  have hge : ∀ k, joinM l.length m mc (l.length + k) = mc k := fun k => by simp only [joinM]; rw [if_neg (by omega)]; congr 1; omega
  have hV : ∀ id, id < l.length → isVar (l ++ lc) id = isVar l id := fun id hid => by unfold isVar; rw [List.getElem?_append_left hid]
  have hR : ∀ id, id < l.length → isRow (l ++ lc) id = isRow l id := fun id hid => by unfold isRow; rw [List.getElem?_append_left hid]
  have hle2 : Le J m l J (joinM l.length m mc) (l ++ lc) := by
    refine ⟨.refl J, by simp, fun id hid hv => ⟨(hV id hid).trans hv, hlt id hid⟩, fun id hid hv => ⟨(hR id hid).symm.trans hv, hlt id hid⟩, fun id e' s' els hid hl => ⟨els, ?_⟩⟩
    rwa [List.getElem?_append_left hid] at hl
  have hal : ∀ i, alive (l ++ lc) i = true → (i < l.length ∧ alive l i = true) ∨ ∃ k, i = l.length + k ∧ alive lc k = true := by
    intro i hi
    obtain ⟨o, ho, hd⟩ := alive_iff.1 hi
    rcases Nat.lt_or_ge i l.length with h | h
    · rw [List.getElem?_append_left h] at ho
      exact .inl ⟨h, alive_iff.2 ⟨o, ho, hd⟩⟩
    · rw [List.getElem?_append_right h] at ho
      exact .inr ⟨i - l.length, by omega, alive_iff.2 ⟨o, ho, hd⟩⟩
  have low : ∀ i b, i < l.length → alive l i = true → own (m i) = some b → b < w.heap.size := by
    intro i b hi ha hb
    obtain ⟨o, ho, hd⟩ := alive_iff.1 ha
    exact ((h.obj i o ho).lt hd hb).1
  have high : ∀ k b, alive lc k = true → own (mc k) = some b → w.heap.size ≤ b := by
    intro k b ha hb
    obtain ⟨o, ho, hd⟩ := alive_iff.1 ha
    exact ((hc.obj k o ho).lt hd hb).2
  refine ⟨hle1.trans hle2, ⟨h1.below, h1.sat, h1.ext, fun id o ho => ?_, fun i j b hij hi hj hbi hbj => ?_⟩⟩
  · rcases Nat.lt_or_ge id l.length with hid | hid
    · rw [List.getElem?_append_left hid] at ho
      rw [hlt id hid]
      by_cases hd : o = .dead
      · subst hd; trivial
      · exact (h1.obj id o ho).keep hle2 (fun _ _ => rfl) (fun _ _ => ⟨rfl, rfl⟩)
    · rw [List.getElem?_append_right hid] at ho
      have hk := hc.obj _ o ho
      have : joinM l.length m mc id = mc (id - l.length) := by simp [joinM, Nat.not_lt.2 hid]
      rw [this]
      have hb0 : w0.heap.size ≤ w.heap.size := h.below.size
      rcases hr o (List.mem_of_getElem? ho) with hro | rfl
      · cases o with
        | dead => trivial
        | var ty cs => cases hro
        | row e size els =>
          obtain ⟨xs, q1, q2⟩ := hk
          exact ⟨xs, rowBase q1 hb0, q2⟩
        | frow e size els =>
          obtain ⟨xs, q1, q2⟩ := hk
          exact ⟨xs, rowBase q1 hb0, q2⟩
        | map ks vs =>
          obtain ⟨b, es, q1, q2, q3⟩ := hk
          exact ⟨b, es, q1, Nat.le_trans hb0 q2, q3⟩
        | fmap ks vs =>
          obtain ⟨b, es, q1, q2, q3⟩ := hk
          exact ⟨b, es, q1, Nat.le_trans hb0 q2, q3⟩
        | iter ks vs done => cases hro
        | frame b vals t => cases hro
        | loop b n ps asg body t st pend => cases hro
      · trivial
  · rcases hal i hi with ⟨i1, i2⟩ | ⟨k, rfl, k2⟩
    · rw [hlt i i1] at hbi
      rcases hal j hj with ⟨j1, j2⟩ | ⟨q, rfl, q2⟩
      · rw [hlt j j1] at hbj; exact h.sep i j b hij i2 j2 hbi hbj
      · rw [hge q] at hbj
        have := low i b i1 i2 hbi
        have := high q b q2 hbj
        omega
    · rw [hge k] at hbi
      rcases hal j hj with ⟨j1, j2⟩ | ⟨q, rfl, q2⟩
      · rw [hlt j j1] at hbj
        have := low j b j1 j2 hbj
        have := high k b k2 hbi
        omega
      · rw [hge q] at hbj
        exact hc.sep k q b (fun e => hij (by rw [e])) k2 q2 hbi hbj
theorem RdT.shift {I : Imm} {v : Value} {t : T} (h : RdT I mc lc v t) : RdT I (joinM l.length m mc) (l ++ lc) v (t.shift l.length) := by
  have hge : ∀ k, joinM l.length m mc (k + l.length) = mc k := fun k => by simp only [joinM]; rw [if_neg (by omega)]; congr 1; omega
  have hR : ∀ k, isRow (l ++ lc) (k + l.length) = isRow lc k := fun k => by unfold isRow; rw [List.getElem?_append_right (by omega), Nat.add_sub_cancel]
  cases h with
  | d v x hx => exact .d _ _ hx
  | nils s => exact .nils _
  | row A n c id h1 h2 => exact .row A n c _ (by simp; omega) fun hl => by rw [hge]; rw [hR] at hl; exact h2 hl
  | map r id h1 h2 => exact .map r _ (by simp; omega) fun hl => by rw [hge]; rw [hR] at hl; exact h2 hl
  | _ => exact .undef _
def OwnCon (P : Program) (f : FuncId) (ds : List D) (t : T) (lc : List AO) : Prop :=
  ∀ (w : World) (I : Imm) (vs : Array Value), SatI w I → vs.size = ds.length → (∀ (i : Nat) v d, vs[i]? = some v → ds[i]? = some d → Rd I v d) →
    Calls P f vs w fun e w' => ∃ v J mc, e = .returned v ∧ WRel w I w' J mc lc ∧ RdT J mc lc v t
theorem FCon.ofOwn {f : FuncId} {ts : List T} {l l1 : List AO} {ds : List D} {t : T} {lc : List AO} (hd : argsD l ts = some (ds, l1)) (h : OwnCon P f ds t lc) (hr : rowsOnly lc) : FCon P f ts l (t.shift l1.length) (l1 ++ lc) := by
  intro w0 I0 w I m args hrel hsz hargs
  obtain ⟨J1, le1, r1, hl1, hrd, _⟩ := argsD_ok ts l I args.toList ds l1 hrel (by simpa using hsz) (fun i v x hv hx => hargs i v x (by simpa using hv) hx) hd
  refine (h w J1 args r1.sat (by simpa using hl1) (fun i v d hv hd' => hrd i v d (by simpa using hv) hd')).mono ?_
  rintro e w' ⟨v, J, mc, he, hw, hv⟩
  obtain ⟨h1, h2⟩ := r1.join hw hr
  exact ⟨v, he, J, _, le1.trans h1, h2, hv.shift⟩
theorem OwnCon.of {f : FuncId} {fn : Func} {c : Code} {ds : List D} {t : T} {lc : List AO} {k : Nat} (hf : P.funcs[f]? = some fn) (hb : fn.body = some c) (hn : ds.length ≤ fn.ntmps) (hres : fn.results = #[.tmp k])
    (h : ∀ (R : Rnd), R.r = none → ∀ w0 I0 (Q : Exit → St → Prop), (∀ e s, (e = .ret ∨ e = .normal) → Sub s ⟨[(k, t)], lc⟩ → Q e s) → AWp P w0 I0 fn.ntmps c ⟨startT 0 ds, []⟩ Q) : OwnCon P f ds t lc := by
  intro w I vs hsat hlen hrd
  let R : Rnd := ⟨none, I.df⟩
  refine calls_marks (R := fun e w' => ∃ v J mc, e = .returned v ∧ WRel w I w' J mc lc ∧ RdT J mc lc v t) rfl hf hb ?_
  have hrel : Rel w I fn.ntmps ⟨startT 0 ds, []⟩ { tmps := vs ++ Array.replicate (fn.ntmps - vs.size) undef, defers := [] } w := by
    refine ⟨by simp; omega, I, fun _ => undef, ⟨Bel.refl _ _, hsat, ExtI.refl _ _, by simp, by simp [alive, isVar, isRow]⟩, Dfs.nil fun _ h => h, fun k => ?_⟩
    rw [startT_get]
    simp only [Nat.zero_le, if_true, Nat.sub_zero]
    cases hd : ds[k]? with
    | none => exact .undef _
    | some d =>
      have hk : k < vs.size := by rw [hlen]; exact (List.getElem?_eq_some_iff.1 hd).1
      have hv : vs[k]? = some vs[k] := Array.getElem?_eq_getElem hk
      have : (vs ++ Array.replicate (fn.ntmps - vs.size) undef).getD k undef = vs[k] := by
        rw [Array.getD_eq_getD_getElem?, Array.getElem?_append_left hk, hv]; rfl
      rw [this]
      exact .d _ _ (hrd k _ d hv hd)
  refine Code.wpIn_mono (fun e a w1 ⟨s, ⟨he, hs⟩, hr⟩ => ?_) (h R rfl w I (fun e s => (e = .ret ∨ e = .normal) ∧ Sub s ⟨[(k, t)], lc⟩) (fun _ _ h1 h2 => ⟨h1, h2⟩) _ _ hrel)
  obtain ⟨_, J1, m, hw1, hdf, ht1⟩ := hs _ _ _ _ _ hr
  obtain ⟨w', J, hw, _, hdrop, hend⟩ := endMarks (P := P) (fn := fn) (a := a) he hw1 hdf
  refine hend _ ?_
  have ht : ∀ j, RdT J m lc (a.tmps.getD j undef) (get [(k, t)] j) := fun j => hdrop _ _ (ht1 j)
  have hrun : (results fn a.tmps).run P w' = .ok (a.tmps.getD k undef) w' := by
    rw [results_eq, hres]
    simp [resSem]
  have hv := ht k
  simp only [get, if_true] at hv
  exact ⟨_, hrun, _, J, m, rfl, hw, hv⟩
end
end Go.Eva
