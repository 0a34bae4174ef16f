/-
  The evaluator, the printed walks and the plain laws, part 5 of 8.
-/
import Derived.Test.YtjfkfkjkbgiciaaDoorX4
import Derived.Test.YtjfkfkjkbgiciaaDoorProg
import Derived.Shelf.SlGeneric
import Derived.Shelf.SlSortCmp.WholeK
import Derived.Shelf.SlSortCmp.NoneTotal
import Derived.Shelf.SlIterI.Nil
import Derived.Shelf.SortM.Plain
import Derived.Shelf.SortM.SortNone
import Derived.Ground.SlsfProg
import Derived.Ground.GgzProg
import Derived.Ground.SlgmProg
set_option linter.all false
set_option linter.unnecessarySimpa false
set_option linter.deprecated false
set_option linter.unusedVariables false
set_option linter.unusedSimpArgs false
set_option linter.unusedSectionVars false
namespace Go.Eva
open Go Enc
variable [Drw] [Rnd] {s : St} {K : St → Prop}
theorem Sub.rn (ids : List Nat) (t' : Tm) (l' : List AO) (hnd : ids.Nodup := by decide) (hfr : framesOk ids s.l = true := by first | rfl | simp [framesOk])
    (hl : renL ids s.l = l' := by first | rfl | simp [renL, AO.ren, forgetsR, T.ren, T.ren2, T.ren1, T.flat, T.data, framesOk, idx, Eva.get])
    (hf : forgetsR ids s.t t' := by first | ((repeat (first | exact trivial | refine ⟨rfl, ?_⟩)); done) | (simp [renL, AO.ren, forgetsR, T.ren, T.ren2, T.ren1, T.flat, T.data, framesOk, idx, Eva.get] <;> grind)) : Sub s ⟨t', l'⟩ :=
  Sub.ren ids hnd hfr hl hf
theorem ai {p q : Prop} (h : q) (hp : p := by first | omega | (simp [*]; done) | grind) : p ∧ q := ⟨hp, h⟩
theorem kc (t : Tm) (l : List AO) (k : K ⟨t, l⟩) (h : s = ⟨t, l⟩ := by first | rfl | (simp <;> grind)) : K s := h ▸ k
theorem kd (t : Tm) (l : List AO) (h : s = ⟨t, l⟩) (k : K ⟨t, l⟩) : K s := h ▸ k
theorem oij {α : Type} {a b : α} (h : some a = some b) : a = b := Option.some.inj h
theorem mpj {α β : Type} {f : α → β} {o : Option α} {b : β} (h : o.map f = some b) : ∃ a, o = some a ∧ f a = b := Option.map_eq_some_iff.1 h
theorem bcj (b : Bool) : b = true ∨ b = false := Bool.eq_false_or_eq_true b
end Go.Eva
namespace Go.Eva
open Go Enc
def se {α : Type} [Enc α] (i : Nat) (x : α) : Nat × T := (i, .d (enc x))
def AO.w {α : Type} [Enc α] (ty : TypeId) (x : α) : AO := .var ty (cellsT (.d (enc x)))
def AO.ro {α : Type} [Enc α] (e size : Nat) (x : List α) : AO := .row e size (x.map enc)
def AO.fro {α : Type} [Enc α] (e size : Nat) (x : List α) : AO := .frow e size (x.map enc)
@[simp] theorem se_eq {α : Type} [Enc α] (i : Nat) (x : α) : se i x = (i, .d (enc x)) := rfl
@[simp] theorem AO.w_eq {α : Type} [Enc α] (ty : TypeId) (x : α) : AO.w ty x = .var ty (cellsT (.d (enc x))) := rfl
@[simp] theorem AO.ro_eq {α : Type} [Enc α] (e size : Nat) (x : List α) : AO.ro e size x = .row e size (x.map enc) := rfl
@[simp] theorem AO.fro_eq {α : Type} [Enc α] (e size : Nat) (x : List α) : AO.fro e size x = .frow e size (x.map enc) := rfl
theorem ifb_o {β : Type} {c : Bool} {a b : Option β} {r : β} (h : ifb c a b = some r) : (c = true ∧ a = some r) ∨ (c = false ∧ b = some r) := by
  cases c
  · exact .inr ⟨rfl, h⟩
  · exact .inl ⟨rfl, h⟩
variable [Drw] [Rnd] {s : St} {K : St → Prop} {P : Program} {w0 : World} {I0 : Imm} {n : Nat} {x y : Code} {Q : Exit → St → Prop}
theorem nd_f {p : Prop} [Decidable p] (h : (!decide p) = false) : p = True := by simpa using h
theorem at_e {α : Type} [Enc α] {l : List α} {i : Int} {x : α} (h : at? l i = some x) : 0 ≤ i ∧ i < l.length ∧ elAt (l.map enc) i.toNat = enc x :=
  ⟨(at_some h).1, (at_some h).2.1, elAt_enc (at_some h).2.2⟩
theorem AWp.cnd {β : Type} {c : Operand} {b : Bool} {p q : Option β} {r : β} (hg : ifb b p q = some r) (hc : boolOf (evT s.t c) = some b) (h1 : b = true → p = some r → AWp P w0 I0 n x s Q) (h2 : b = false → q = some r → AWp P w0 I0 n y s Q) : AWp P w0 I0 n (.cond c x y) s Q :=
  AWp.cond hc (fun h => h1 h (ifb_t h hg)) fun h => h2 h (ifb_f h hg)
theorem fgR_nil (ids : List Nat) (s : Tm) : forgetsR ids s [] := trivial
theorem fgR_cons {ids : List Nat} {s r : Tm} {i : Nat} {t : T} (h : (get s i).ren ids = t) (k : forgetsR ids s r) : forgetsR ids s ((i, t) :: r) := ⟨h, k⟩
theorem fgR_se {α : Type} [Enc α] {ids : List Nat} {s r : Tm} {i : Nat} {v : α} (h : (get s i).ren ids = .d (enc v)) (k : forgetsR ids s r) : forgetsR ids s (se i v :: r) := ⟨h, k⟩
theorem Sub.rm (ids : List Nat) {t' : Tm} {l' : List AO} (hnd : ids.Nodup := by decide) (hfr : framesOk ids s.l = true := by first | rfl | simp [framesOk])
    (hl : renL ids s.l = l' := by first | rfl | (simp [renL, AO.ren, forgetsR, T.ren, T.ren2, T.ren1, T.flat, T.data, framesOk, idx, Eva.get] <;> grind))
    (hf : forgetsR ids s.t t' := by first | ((repeat (first | exact fgR_nil _ _ | refine fgR_se rfl ?_ | refine fgR_cons rfl ?_)); done) | (simp [renL, AO.ren, forgetsR, T.ren, T.ren2, T.ren1, T.flat, T.data, framesOk, idx, Eva.get] <;> grind)) : Sub s ⟨t', l'⟩ :=
  Sub.ren ids hnd hfr hl hf
theorem Sub.toDa (j : Nat) {d : D} {l' : List AO} (h : toD s.l (get s.t j) = some (d, l') := by simp [toD, Eva.get]; first | rfl | exact ⟨rfl, rfl⟩) : Sub s ⟨(j, .d d) :: s.t, l'⟩ := Sub.toData j h
theorem Sub.fz {α : Type} [Enc α] (j id : Nat) (x : α) (ids : List Nat) {ty : TypeId} {t' : Tm} {l' : List AO} (hj : get s.t j = .ptr id 0 := by rfl) (ho : s.l[id]? = some (.var ty ((enc x).cells.map .d)) := by rfl) (hid : id ∉ ids := by decide) (hnd : ids.Nodup := by decide) (hfr : framesOk ids s.l = true := by first | rfl | simp [framesOk])
    (hl : renL ids s.l = l' := by first | rfl | (simp [renL, AO.ren, forgetsR, T.ren, T.ren2, T.ren1, T.flat, T.data, framesOk, idx, Eva.get] <;> grind))
    (hf : forgetsR ids s.t t' := by first | ((repeat (first | exact fgR_nil _ _ | refine fgR_se rfl ?_ | refine fgR_cons rfl ?_)); done) | (simp [renL, AO.ren, forgetsR, T.ren, T.ren2, T.ren1, T.flat, T.data, framesOk, idx, Eva.get] <;> grind)) :
    Sub s ⟨se j (⟨x⟩ : Bx α) :: t', l'⟩ := Sub.frz j id (enc x) ids hj ho (Enc.ones _) hid hnd hfr hl hf
theorem PureCon.ofN {V : Env} {f N : Nat} {fn : Func} {c : Code} {ds : List D} {r : D} (hV : VOk P V) (hf : P.funcs[f]? = some fn) (hb : fn.body = some c) (hN : fn.ntmps = N)
    (h : ∀ (R : Rnd), R.r = none → ∀ w0 I0 (Q : Exit → St → Prop), (∀ e s, (e = .ret ∨ e = .normal) → retOk V s fn.results.toList r → Q e s) → AWp P w0 I0 N c ⟨startT 0 ds, []⟩ Q) (hn : ds.length ≤ N := by simp) : PureCon P f ds r :=
  PureCon.ofQ hV hf hb (hN.symm ▸ hn) (hN.symm ▸ h)
theorem rt {V : Env} {rv : List ResultVar} {r : D} (h : retOk V s rv r := by simp [retOk, resT, loadAs] <;> grind) : retOk V s rv r := h
end Go.Eva
namespace Go.Proofs.YtjfkfkjkbgiciaaDoor
open Go Go.Eva
def tyTab : List (Nat × TI) := [
  (1, ⟨1, 8, [.nilfn], .prim⟩),
  (2, ⟨1, 8, [.int .i64 0], .intk .i64⟩),
  (3, ⟨1, 8, [.int .i64 0], .intk .i64⟩),
  (4, ⟨1, 1, [.bool false], .prim⟩),
  (5, ⟨1, 1, [.int .u8 0], .intk .u8⟩),
  (6, ⟨1, 1, [.int .u8 0], .intk .u8⟩),
  (7, ⟨4, 24, [.int .i64 0, .int .i64 0, .bool false, .int .u8 0], .struct [(0, 2), (1, 3), (2, 4), (3, 6)]⟩),
  (8, ⟨4, 24, [.int .i64 0, .int .i64 0, .bool false, .int .u8 0], .struct [(0, 2), (1, 3), (2, 4), (3, 6)]⟩),
  (9, ⟨1, 16, [.str ⟨#[]⟩], .string⟩),
  (10, ⟨1, 16, [.str ⟨#[]⟩], .string⟩),
  (11, ⟨1, 16, [.str ⟨#[]⟩], .string⟩),
  (12, ⟨1, 8, [.int .u64 0], .intk .u64⟩),
  (13, ⟨2, 24, [.str ⟨#[]⟩, .int .u64 0], .struct [(0, 9), (1, 12)]⟩),
  (14, ⟨2, 24, [.str ⟨#[]⟩, .int .u64 0], .struct [(0, 9), (1, 12)]⟩),
  (15, ⟨1, 8, [.nilp], .prim⟩),
  (16, ⟨1, 8, [.nilp], .prim⟩),
  (17, ⟨1, 8, [.nilp], .prim⟩),
  (18, ⟨1, 8, [.nilp], .struct [(0, 17)]⟩),
  (19, ⟨1, 8, [.nilp], .struct [(0, 17)]⟩),
  (21, ⟨1, 4, [.int .i32 0], .intk .i32⟩),
  (22, ⟨1, 24, [.slice 2 []], .slice 27⟩),
  (23, ⟨1, 8, [.nilfn], .prim⟩),
  (24, ⟨1, 8, [.nilfn], .prim⟩),
  (25, ⟨1, 24, [.slice 5 []], .slice 42⟩),
  (26, ⟨2, 32, [.int .i64 0, .slice 5 []], .struct [(0, 3), (1, 25)]⟩),
  (27, ⟨2, 32, [.int .i64 0, .slice 5 []], .struct [(0, 3), (1, 25)]⟩),
  (28, ⟨1, 8, [.int .i64 0], .intk .i64⟩),
  (30, ⟨1, 8, [.nilfn], .prim⟩),
  (31, ⟨1, 8, [.nilfn], .prim⟩),
  (32, ⟨1, 8, [.nilfn], .prim⟩),
  (33, ⟨2, 16, [.int .i64 0, .int .i64 0], .struct [(0, 3), (1, 3)]⟩),
  (34, ⟨2, 16, [.int .i64 0, .int .i64 0], .struct [(0, 3), (1, 3)]⟩),
  (35, ⟨3, 24, [.int .i64 0, .int .i64 0, .int .i64 0], .struct [(0, 3), (1, 3), (2, 3)]⟩),
  (36, ⟨3, 24, [.int .i64 0, .int .i64 0, .int .i64 0], .struct [(0, 3), (1, 3), (2, 3)]⟩),
  (37, ⟨10, 80, [.int .i64 0, .int .i64 0, .int .i64 0, .int .i64 0, .int .i64 0, .int .i64 0, .int .i64 0, .int .i64 0, .int .i64 0, .int .i64 0], .struct [(0, 3), (1, 3), (2, 3), (3, 34), (5, 34), (7, 36)]⟩),
  (38, ⟨10, 80, [.int .i64 0, .int .i64 0, .int .i64 0, .int .i64 0, .int .i64 0, .int .i64 0, .int .i64 0, .int .i64 0, .int .i64 0, .int .i64 0], .struct [(0, 3), (1, 3), (2, 3), (3, 34), (5, 34), (7, 36)]⟩),
  (39, ⟨1, 8, [.nilfn], .prim⟩),
  (40, ⟨1, 24, [.slice 10 []], .slice 38⟩),
  (41, ⟨5, 56, [.int .i64 0, .int .i64 0, .int .i64 0, .int .i64 0, .slice 10 []], .struct [(0, 3), (1, 3), (2, 34), (4, 40)]⟩),
  (42, ⟨5, 56, [.int .i64 0, .int .i64 0, .int .i64 0, .int .i64 0, .slice 10 []], .struct [(0, 3), (1, 3), (2, 34), (4, 40)]⟩),
  (43, ⟨1, 24, [.slice 1 []], .slice 3⟩),
  (45, ⟨1, 8, [.nilfn], .prim⟩),
  (46, ⟨1, 8, [.nilfn], .prim⟩),
  (47, ⟨1, 8, [.nilfn], .prim⟩),
  (48, ⟨1, 8, [.nilfn], .prim⟩),
  (49, ⟨1, 8, [.nilfn], .prim⟩),
  (50, ⟨1, 8, [.nilfn], .prim⟩),
  (51, ⟨1, 8, [.nilfn], .prim⟩),
  (52, ⟨1, 8, [.nilfn], .prim⟩),
  (53, ⟨1, 8, [.map [] []], .map 3 38⟩),
  (55, ⟨1, 8, [.nilfn], .prim⟩),
  (56, ⟨1, 8, [.nilfn], .prim⟩),
  (57, ⟨1, 8, [.nilfn], .prim⟩),
  (58, ⟨1, 8, [.nilfn], .prim⟩),
  (59, ⟨1, 8, [.nilfn], .prim⟩),
  (60, ⟨1, 8, [.nilfn], .prim⟩),
  (61, ⟨1, 8, [.map [] []], .map 3 4⟩),
  (62, ⟨1, 8, [.nilfn], .prim⟩),
  (63, ⟨1, 8, [.nilfn], .prim⟩),
  (64, ⟨1, 8, [.nilfn], .prim⟩),
  (65, ⟨1, 8, [.nilfn], .prim⟩),
  (66, ⟨1, 8, [.nilfn], .prim⟩),
  (67, ⟨1, 8, [.nilfn], .prim⟩),
  (68, ⟨1, 8, [.nilfn], .prim⟩),
  (69, ⟨1, 8, [.nilfn], .prim⟩),
  (70, ⟨1, 8, [.nilfn], .prim⟩),
  (71, ⟨1, 8, [.nilfn], .prim⟩),
  (72, ⟨1, 8, [.nilfn], .prim⟩),
  (73, ⟨1, 8, [.nilfn], .prim⟩),
  (74, ⟨1, 8, [.nilfn], .prim⟩),
  (75, ⟨1, 8, [.nilfn], .prim⟩),
  (76, ⟨1, 8, [.nilfn], .prim⟩),
  (77, ⟨1, 8, [.nilfn], .prim⟩),
  (79, ⟨1, 8, [.nilfn], .prim⟩),
  (80, ⟨1, 8, [.nilfn], .prim⟩),
  (81, ⟨1, 8, [.nilfn], .prim⟩),
  (82, ⟨1, 8, [.nilfn], .prim⟩),
  (83, ⟨1, 8, [.nilfn], .prim⟩),
  (84, ⟨1, 8, [.nilfn], .prim⟩),
  (85, ⟨1, 8, [.nilfn], .prim⟩),
  (86, ⟨1, 8, [.nilfn], .prim⟩),
  (87, ⟨1, 8, [.nilfn], .prim⟩),
  (88, ⟨1, 8, [.nilfn], .prim⟩),
  (89, ⟨1, 8, [.nilfn], .prim⟩),
  (90, ⟨1, 8, [.nilfn], .prim⟩),
  (91, ⟨1, 8, [.nilfn], .prim⟩),
  (92, ⟨1, 8, [.nilfn], .prim⟩),
  (93, ⟨1, 8, [.nilfn], .prim⟩),
  (94, ⟨1, 8, [.nilfn], .prim⟩),
  (95, ⟨1, 8, [.nilfn], .prim⟩),
  (96, ⟨1, 8, [.int .u64 0], .intk .u64⟩),
  (97, ⟨1, 8, [.nilfn], .prim⟩),
  (98, ⟨1, 8, [.nilfn], .prim⟩),
  (99, ⟨1, 8, [.nilfn], .prim⟩),
  (100, ⟨1, 8, [.nilfn], .prim⟩),
  (101, ⟨1, 8, [.nilfn], .prim⟩),
  (102, ⟨1, 8, [.int .i64 0], .intk .i64⟩),
  (104, ⟨1, 8, [.nilfn], .prim⟩),
  (105, ⟨1, 8, [.nilfn], .prim⟩),
  (106, ⟨1, 8, [.nilfn], .prim⟩),
  (108, ⟨1, 8, [.nilfn], .prim⟩),
  (109, ⟨1, 8, [.nilfn], .prim⟩),
  (110, ⟨1, 4, [.int .u32 0], .intk .u32⟩),
  (111, ⟨1, 8, [.nilfn], .prim⟩),
  (112, ⟨1, 8, [.int .u64 0], .intk .u64⟩),
  (113, ⟨2, 16, [.int .i64 0, .int .i64 0], .struct [(0, 3), (1, 3)]⟩),
  (114, ⟨2, 16, [.int .i64 0, .int .i64 0], .struct [(0, 3), (1, 3)]⟩),
  (115, ⟨1, 8, [.nilfn], .prim⟩),
  (116, ⟨7, 56, [.int .i64 0, .int .i64 0, .int .i64 0, .int .i64 0, .int .i64 0, .int .i64 0, .int .i64 0], .array 7 3⟩),
  (117, ⟨1, 8, [.nilfn], .prim⟩),
  (118, ⟨1, 8, [.nilfn], .prim⟩),
  (119, ⟨1, 8, [.nilfn], .prim⟩),
  (120, ⟨1, 8, [.nilfn], .prim⟩),
  (121, ⟨1, 8, [.nilfn], .prim⟩),
  (122, ⟨1, 8, [.int .u64 0], .intk .u64⟩),
  (123, ⟨1, 8, [.nilfn], .prim⟩),
  (124, ⟨1, 8, [.nilfn], .prim⟩),
  (125, ⟨1, 8, [.nilfn], .prim⟩),
  (126, ⟨1, 8, [.nilp], .prim⟩),
  (127, ⟨1, 8, [.nilfn], .prim⟩),
  (128, ⟨1, 8, [.nilfn], .prim⟩),
  (129, ⟨1, 8, [.nilfn], .prim⟩),
  (130, ⟨1, 8, [.nilfn], .prim⟩),
  (131, ⟨1, 8, [.nilp], .prim⟩),
  (133, ⟨1, 8, [.nilfn], .prim⟩),
  (134, ⟨1, 8, [.nilfn], .prim⟩),
  (135, ⟨1, 8, [.nilfn], .prim⟩),
  (136, ⟨4, 40, [.nilp, .nilp, .nilp, .str ⟨#[]⟩], .struct [(0, 17), (1, 17), (2, 17), (3, 9)]⟩),
  (137, ⟨4, 40, [.nilp, .nilp, .nilp, .str ⟨#[]⟩], .struct [(0, 17), (1, 17), (2, 17), (3, 9)]⟩),
  (138, ⟨0, 0, [], .array 0 16⟩),
  (139, ⟨0, 0, [], .struct [(0, 138)]⟩),
  (140, ⟨0, 0, [], .struct [(0, 138)]⟩),
  (141, ⟨1, 8, [.nilfn], .prim⟩),
  (142, ⟨1, 1, [.int .u8 0], .intk .u8⟩),
  (143, ⟨1, 1, [.int .u8 0], .intk .u8⟩),
  (144, ⟨1, 8, [.nilfn], .prim⟩),
  (145, ⟨1, 8, [.nilp], .prim⟩),
  (146, ⟨1, 4, [.int .i32 0], .intk .i32⟩),
  (147, ⟨1, 4, [.int .i32 0], .intk .i32⟩),
  (148, ⟨11, 48, [.int .u64 0, .int .u64 0, .int .u32 0, .int .u8 0, .int .u8 0, .int .u8 0, .int .u8 0, .nilfn, .nilp, .int .i32 0, .int .i32 0], .struct [(0, 12), (1, 12), (2, 110), (3, 142), (4, 5), (5, 5), (6, 143), (7, 144), (8, 145), (9, 146), (10, 147)]⟩),
  (149, ⟨11, 48, [.int .u64 0, .int .u64 0, .int .u32 0, .int .u8 0, .int .u8 0, .int .u8 0, .int .u8 0, .nilfn, .nilp, .int .i32 0, .int .i32 0], .struct [(0, 12), (1, 12), (2, 110), (3, 142), (4, 5), (5, 5), (6, 143), (7, 144), (8, 145), (9, 146), (10, 147)]⟩),
  (150, ⟨1, 8, [.nilfn], .prim⟩)]
def tenv : TEnv := fun t => (tyTab.find? fun p => p.1 == t).map (·.2)
theorem tyTab_ok : tyTab.all (fun p => tiOk Tryd.prog p.1 p.2) = true := by kernel_rfl
theorem tenv_ok : TOk Tryd.prog tenv := TOk.of_tab tyTab_ok
theorem te1 : tenv 1 = some ⟨1, 8, [.nilfn], .prim⟩ := rfl
theorem te2 : tenv 2 = some ⟨1, 8, [.int .i64 0], .intk .i64⟩ := rfl
theorem te3 : tenv 3 = some ⟨1, 8, [.int .i64 0], .intk .i64⟩ := rfl
theorem te4 : tenv 4 = some ⟨1, 1, [.bool false], .prim⟩ := rfl
theorem te5 : tenv 5 = some ⟨1, 1, [.int .u8 0], .intk .u8⟩ := rfl
theorem te6 : tenv 6 = some ⟨1, 1, [.int .u8 0], .intk .u8⟩ := rfl
theorem te7 : tenv 7 = some ⟨4, 24, [.int .i64 0, .int .i64 0, .bool false, .int .u8 0], .struct [(0, 2), (1, 3), (2, 4), (3, 6)]⟩ := rfl
theorem te8 : tenv 8 = some ⟨4, 24, [.int .i64 0, .int .i64 0, .bool false, .int .u8 0], .struct [(0, 2), (1, 3), (2, 4), (3, 6)]⟩ := rfl
theorem te9 : tenv 9 = some ⟨1, 16, [.str ⟨#[]⟩], .string⟩ := rfl
theorem te10 : tenv 10 = some ⟨1, 16, [.str ⟨#[]⟩], .string⟩ := rfl
theorem te11 : tenv 11 = some ⟨1, 16, [.str ⟨#[]⟩], .string⟩ := rfl
theorem te12 : tenv 12 = some ⟨1, 8, [.int .u64 0], .intk .u64⟩ := rfl
theorem te13 : tenv 13 = some ⟨2, 24, [.str ⟨#[]⟩, .int .u64 0], .struct [(0, 9), (1, 12)]⟩ := rfl
theorem te14 : tenv 14 = some ⟨2, 24, [.str ⟨#[]⟩, .int .u64 0], .struct [(0, 9), (1, 12)]⟩ := rfl
theorem te15 : tenv 15 = some ⟨1, 8, [.nilp], .prim⟩ := rfl
theorem te16 : tenv 16 = some ⟨1, 8, [.nilp], .prim⟩ := rfl
theorem te17 : tenv 17 = some ⟨1, 8, [.nilp], .prim⟩ := rfl
theorem te18 : tenv 18 = some ⟨1, 8, [.nilp], .struct [(0, 17)]⟩ := rfl
theorem te19 : tenv 19 = some ⟨1, 8, [.nilp], .struct [(0, 17)]⟩ := rfl
theorem te21 : tenv 21 = some ⟨1, 4, [.int .i32 0], .intk .i32⟩ := rfl
theorem te22 : tenv 22 = some ⟨1, 24, [.slice 2 []], .slice 27⟩ := rfl
theorem te23 : tenv 23 = some ⟨1, 8, [.nilfn], .prim⟩ := rfl
theorem te24 : tenv 24 = some ⟨1, 8, [.nilfn], .prim⟩ := rfl
theorem te25 : tenv 25 = some ⟨1, 24, [.slice 5 []], .slice 42⟩ := rfl
theorem te26 : tenv 26 = some ⟨2, 32, [.int .i64 0, .slice 5 []], .struct [(0, 3), (1, 25)]⟩ := rfl
theorem te27 : tenv 27 = some ⟨2, 32, [.int .i64 0, .slice 5 []], .struct [(0, 3), (1, 25)]⟩ := rfl
theorem te28 : tenv 28 = some ⟨1, 8, [.int .i64 0], .intk .i64⟩ := rfl
theorem te30 : tenv 30 = some ⟨1, 8, [.nilfn], .prim⟩ := rfl
theorem te31 : tenv 31 = some ⟨1, 8, [.nilfn], .prim⟩ := rfl
theorem te32 : tenv 32 = some ⟨1, 8, [.nilfn], .prim⟩ := rfl
theorem te33 : tenv 33 = some ⟨2, 16, [.int .i64 0, .int .i64 0], .struct [(0, 3), (1, 3)]⟩ := rfl
theorem te34 : tenv 34 = some ⟨2, 16, [.int .i64 0, .int .i64 0], .struct [(0, 3), (1, 3)]⟩ := rfl
theorem te35 : tenv 35 = some ⟨3, 24, [.int .i64 0, .int .i64 0, .int .i64 0], .struct [(0, 3), (1, 3), (2, 3)]⟩ := rfl
theorem te36 : tenv 36 = some ⟨3, 24, [.int .i64 0, .int .i64 0, .int .i64 0], .struct [(0, 3), (1, 3), (2, 3)]⟩ := rfl
theorem te37 : tenv 37 = some ⟨10, 80, [.int .i64 0, .int .i64 0, .int .i64 0, .int .i64 0, .int .i64 0, .int .i64 0, .int .i64 0, .int .i64 0, .int .i64 0, .int .i64 0], .struct [(0, 3), (1, 3), (2, 3), (3, 34), (5, 34), (7, 36)]⟩ := rfl
theorem te38 : tenv 38 = some ⟨10, 80, [.int .i64 0, .int .i64 0, .int .i64 0, .int .i64 0, .int .i64 0, .int .i64 0, .int .i64 0, .int .i64 0, .int .i64 0, .int .i64 0], .struct [(0, 3), (1, 3), (2, 3), (3, 34), (5, 34), (7, 36)]⟩ := rfl
theorem te39 : tenv 39 = some ⟨1, 8, [.nilfn], .prim⟩ := rfl
theorem te40 : tenv 40 = some ⟨1, 24, [.slice 10 []], .slice 38⟩ := rfl
theorem te41 : tenv 41 = some ⟨5, 56, [.int .i64 0, .int .i64 0, .int .i64 0, .int .i64 0, .slice 10 []], .struct [(0, 3), (1, 3), (2, 34), (4, 40)]⟩ := rfl
theorem te42 : tenv 42 = some ⟨5, 56, [.int .i64 0, .int .i64 0, .int .i64 0, .int .i64 0, .slice 10 []], .struct [(0, 3), (1, 3), (2, 34), (4, 40)]⟩ := rfl
theorem te43 : tenv 43 = some ⟨1, 24, [.slice 1 []], .slice 3⟩ := rfl
theorem te45 : tenv 45 = some ⟨1, 8, [.nilfn], .prim⟩ := rfl
theorem te46 : tenv 46 = some ⟨1, 8, [.nilfn], .prim⟩ := rfl
theorem te47 : tenv 47 = some ⟨1, 8, [.nilfn], .prim⟩ := rfl
theorem te48 : tenv 48 = some ⟨1, 8, [.nilfn], .prim⟩ := rfl
theorem te49 : tenv 49 = some ⟨1, 8, [.nilfn], .prim⟩ := rfl
theorem te50 : tenv 50 = some ⟨1, 8, [.nilfn], .prim⟩ := rfl
theorem te51 : tenv 51 = some ⟨1, 8, [.nilfn], .prim⟩ := rfl
theorem te52 : tenv 52 = some ⟨1, 8, [.nilfn], .prim⟩ := rfl
theorem te53 : tenv 53 = some ⟨1, 8, [.map [] []], .map 3 38⟩ := rfl
theorem te55 : tenv 55 = some ⟨1, 8, [.nilfn], .prim⟩ := rfl
theorem te56 : tenv 56 = some ⟨1, 8, [.nilfn], .prim⟩ := rfl
theorem te57 : tenv 57 = some ⟨1, 8, [.nilfn], .prim⟩ := rfl
theorem te58 : tenv 58 = some ⟨1, 8, [.nilfn], .prim⟩ := rfl
theorem te59 : tenv 59 = some ⟨1, 8, [.nilfn], .prim⟩ := rfl
theorem te60 : tenv 60 = some ⟨1, 8, [.nilfn], .prim⟩ := rfl
theorem te61 : tenv 61 = some ⟨1, 8, [.map [] []], .map 3 4⟩ := rfl
theorem te62 : tenv 62 = some ⟨1, 8, [.nilfn], .prim⟩ := rfl
theorem te63 : tenv 63 = some ⟨1, 8, [.nilfn], .prim⟩ := rfl
theorem te64 : tenv 64 = some ⟨1, 8, [.nilfn], .prim⟩ := rfl
theorem te65 : tenv 65 = some ⟨1, 8, [.nilfn], .prim⟩ := rfl
theorem te66 : tenv 66 = some ⟨1, 8, [.nilfn], .prim⟩ := rfl
theorem te67 : tenv 67 = some ⟨1, 8, [.nilfn], .prim⟩ := rfl
theorem te68 : tenv 68 = some ⟨1, 8, [.nilfn], .prim⟩ := rfl
theorem te69 : tenv 69 = some ⟨1, 8, [.nilfn], .prim⟩ := rfl
theorem te70 : tenv 70 = some ⟨1, 8, [.nilfn], .prim⟩ := rfl
theorem te71 : tenv 71 = some ⟨1, 8, [.nilfn], .prim⟩ := rfl
theorem te72 : tenv 72 = some ⟨1, 8, [.nilfn], .prim⟩ := rfl
theorem te73 : tenv 73 = some ⟨1, 8, [.nilfn], .prim⟩ := rfl
theorem te74 : tenv 74 = some ⟨1, 8, [.nilfn], .prim⟩ := rfl
theorem te75 : tenv 75 = some ⟨1, 8, [.nilfn], .prim⟩ := rfl
theorem te76 : tenv 76 = some ⟨1, 8, [.nilfn], .prim⟩ := rfl
theorem te77 : tenv 77 = some ⟨1, 8, [.nilfn], .prim⟩ := rfl
theorem te79 : tenv 79 = some ⟨1, 8, [.nilfn], .prim⟩ := rfl
theorem te80 : tenv 80 = some ⟨1, 8, [.nilfn], .prim⟩ := rfl
theorem te81 : tenv 81 = some ⟨1, 8, [.nilfn], .prim⟩ := rfl
theorem te82 : tenv 82 = some ⟨1, 8, [.nilfn], .prim⟩ := rfl
theorem te83 : tenv 83 = some ⟨1, 8, [.nilfn], .prim⟩ := rfl
theorem te84 : tenv 84 = some ⟨1, 8, [.nilfn], .prim⟩ := rfl
theorem te85 : tenv 85 = some ⟨1, 8, [.nilfn], .prim⟩ := rfl
theorem te86 : tenv 86 = some ⟨1, 8, [.nilfn], .prim⟩ := rfl
theorem te87 : tenv 87 = some ⟨1, 8, [.nilfn], .prim⟩ := rfl
theorem te88 : tenv 88 = some ⟨1, 8, [.nilfn], .prim⟩ := rfl
theorem te89 : tenv 89 = some ⟨1, 8, [.nilfn], .prim⟩ := rfl
theorem te90 : tenv 90 = some ⟨1, 8, [.nilfn], .prim⟩ := rfl
theorem te91 : tenv 91 = some ⟨1, 8, [.nilfn], .prim⟩ := rfl
theorem te92 : tenv 92 = some ⟨1, 8, [.nilfn], .prim⟩ := rfl
theorem te93 : tenv 93 = some ⟨1, 8, [.nilfn], .prim⟩ := rfl
theorem te94 : tenv 94 = some ⟨1, 8, [.nilfn], .prim⟩ := rfl
theorem te95 : tenv 95 = some ⟨1, 8, [.nilfn], .prim⟩ := rfl
theorem te96 : tenv 96 = some ⟨1, 8, [.int .u64 0], .intk .u64⟩ := rfl
theorem te97 : tenv 97 = some ⟨1, 8, [.nilfn], .prim⟩ := rfl
theorem te98 : tenv 98 = some ⟨1, 8, [.nilfn], .prim⟩ := rfl
theorem te99 : tenv 99 = some ⟨1, 8, [.nilfn], .prim⟩ := rfl
theorem te100 : tenv 100 = some ⟨1, 8, [.nilfn], .prim⟩ := rfl
theorem te101 : tenv 101 = some ⟨1, 8, [.nilfn], .prim⟩ := rfl
theorem te102 : tenv 102 = some ⟨1, 8, [.int .i64 0], .intk .i64⟩ := rfl
theorem te104 : tenv 104 = some ⟨1, 8, [.nilfn], .prim⟩ := rfl
theorem te105 : tenv 105 = some ⟨1, 8, [.nilfn], .prim⟩ := rfl
theorem te106 : tenv 106 = some ⟨1, 8, [.nilfn], .prim⟩ := rfl
theorem te108 : tenv 108 = some ⟨1, 8, [.nilfn], .prim⟩ := rfl
theorem te109 : tenv 109 = some ⟨1, 8, [.nilfn], .prim⟩ := rfl
theorem te110 : tenv 110 = some ⟨1, 4, [.int .u32 0], .intk .u32⟩ := rfl
theorem te111 : tenv 111 = some ⟨1, 8, [.nilfn], .prim⟩ := rfl
theorem te112 : tenv 112 = some ⟨1, 8, [.int .u64 0], .intk .u64⟩ := rfl
theorem te113 : tenv 113 = some ⟨2, 16, [.int .i64 0, .int .i64 0], .struct [(0, 3), (1, 3)]⟩ := rfl
theorem te114 : tenv 114 = some ⟨2, 16, [.int .i64 0, .int .i64 0], .struct [(0, 3), (1, 3)]⟩ := rfl
theorem te115 : tenv 115 = some ⟨1, 8, [.nilfn], .prim⟩ := rfl
theorem te116 : tenv 116 = some ⟨7, 56, [.int .i64 0, .int .i64 0, .int .i64 0, .int .i64 0, .int .i64 0, .int .i64 0, .int .i64 0], .array 7 3⟩ := rfl
theorem te117 : tenv 117 = some ⟨1, 8, [.nilfn], .prim⟩ := rfl
theorem te118 : tenv 118 = some ⟨1, 8, [.nilfn], .prim⟩ := rfl
theorem te119 : tenv 119 = some ⟨1, 8, [.nilfn], .prim⟩ := rfl
theorem te120 : tenv 120 = some ⟨1, 8, [.nilfn], .prim⟩ := rfl
theorem te121 : tenv 121 = some ⟨1, 8, [.nilfn], .prim⟩ := rfl
theorem te122 : tenv 122 = some ⟨1, 8, [.int .u64 0], .intk .u64⟩ := rfl
theorem te123 : tenv 123 = some ⟨1, 8, [.nilfn], .prim⟩ := rfl
theorem te124 : tenv 124 = some ⟨1, 8, [.nilfn], .prim⟩ := rfl
theorem te125 : tenv 125 = some ⟨1, 8, [.nilfn], .prim⟩ := rfl
theorem te126 : tenv 126 = some ⟨1, 8, [.nilp], .prim⟩ := rfl
theorem te127 : tenv 127 = some ⟨1, 8, [.nilfn], .prim⟩ := rfl
theorem te128 : tenv 128 = some ⟨1, 8, [.nilfn], .prim⟩ := rfl
theorem te129 : tenv 129 = some ⟨1, 8, [.nilfn], .prim⟩ := rfl
theorem te130 : tenv 130 = some ⟨1, 8, [.nilfn], .prim⟩ := rfl
theorem te131 : tenv 131 = some ⟨1, 8, [.nilp], .prim⟩ := rfl
theorem te133 : tenv 133 = some ⟨1, 8, [.nilfn], .prim⟩ := rfl
theorem te134 : tenv 134 = some ⟨1, 8, [.nilfn], .prim⟩ := rfl
theorem te135 : tenv 135 = some ⟨1, 8, [.nilfn], .prim⟩ := rfl
theorem te136 : tenv 136 = some ⟨4, 40, [.nilp, .nilp, .nilp, .str ⟨#[]⟩], .struct [(0, 17), (1, 17), (2, 17), (3, 9)]⟩ := rfl
theorem te137 : tenv 137 = some ⟨4, 40, [.nilp, .nilp, .nilp, .str ⟨#[]⟩], .struct [(0, 17), (1, 17), (2, 17), (3, 9)]⟩ := rfl
theorem te138 : tenv 138 = some ⟨0, 0, [], .array 0 16⟩ := rfl
theorem te139 : tenv 139 = some ⟨0, 0, [], .struct [(0, 138)]⟩ := rfl
theorem te140 : tenv 140 = some ⟨0, 0, [], .struct [(0, 138)]⟩ := rfl
theorem te141 : tenv 141 = some ⟨1, 8, [.nilfn], .prim⟩ := rfl
theorem te142 : tenv 142 = some ⟨1, 1, [.int .u8 0], .intk .u8⟩ := rfl
theorem te143 : tenv 143 = some ⟨1, 1, [.int .u8 0], .intk .u8⟩ := rfl
theorem te144 : tenv 144 = some ⟨1, 8, [.nilfn], .prim⟩ := rfl
theorem te145 : tenv 145 = some ⟨1, 8, [.nilp], .prim⟩ := rfl
theorem te146 : tenv 146 = some ⟨1, 4, [.int .i32 0], .intk .i32⟩ := rfl
theorem te147 : tenv 147 = some ⟨1, 4, [.int .i32 0], .intk .i32⟩ := rfl
theorem te148 : tenv 148 = some ⟨11, 48, [.int .u64 0, .int .u64 0, .int .u32 0, .int .u8 0, .int .u8 0, .int .u8 0, .int .u8 0, .nilfn, .nilp, .int .i32 0, .int .i32 0], .struct [(0, 12), (1, 12), (2, 110), (3, 142), (4, 5), (5, 5), (6, 143), (7, 144), (8, 145), (9, 146), (10, 147)]⟩ := rfl
theorem te149 : tenv 149 = some ⟨11, 48, [.int .u64 0, .int .u64 0, .int .u32 0, .int .u8 0, .int .u8 0, .int .u8 0, .int .u8 0, .nilfn, .nilp, .int .i32 0, .int .i32 0], .struct [(0, 12), (1, 12), (2, 110), (3, 142), (4, 5), (5, 5), (6, 143), (7, 144), (8, 145), (9, 146), (10, 147)]⟩ := rfl
theorem te150 : tenv 150 = some ⟨1, 8, [.nilfn], .prim⟩ := rfl
structure Rat where
  n : Int
  d : Int
  deriving DecidableEq
instance : Enc Rat := ⟨fun r => .agg [.int .i64 r.n, .int .i64 r.d], fun d => match d with | .agg [.int _ x0, .int _ x1] => ⟨x0, x1⟩ | _ => ⟨0, 0⟩, 2, fun _ => rfl, fun _ => rfl, by simp [D.cells, D.one, enc_list]⟩
theorem enc_Rat (r : Rat) : Enc.enc r = .agg [.int .i64 r.n, .int .i64 r.d] := rfl
theorem dec_Rat (k0 k1 : IntKind) (x0 : Int) (x1 : Int) : (Enc.dec (.agg [.int k0 x0, .int k1 x1]) : Rat) = ⟨x0, x1⟩ := rfl
theorem size_Rat : Enc.size Rat = 2 := rfl
theorem eta_Rat (r : Rat) : (⟨r.n, r.d⟩ : Rat) = r := rfl
theorem beqL_Rat (a b : Rat) : beqDs [.int .i64 a.n, .int .i64 a.d] [.int .i64 b.n, .int .i64 b.d] = decide (a = b) := by
  rw [Bool.eq_iff_iff]; rcases a with ⟨a1, a2⟩; rcases b with ⟨b1, b2⟩; simp [beqDs, beqD, and_assoc]
theorem beqR_Rat (a : Rat) (b0 : Int) (b1 : Int) : beqDs [.int .i64 a.n, .int .i64 a.d] [.int .i64 b0, .int .i64 b1] = decide (a = ⟨b0, b1⟩) := beqL_Rat a ⟨b0, b1⟩
theorem beqS_Rat (a : Rat) (b0 : Int) (b1 : Int) : beqDs [.int .i64 b0, .int .i64 b1] [.int .i64 a.n, .int .i64 a.d] = decide ((⟨b0, b1⟩ : Rat) = a) := beqL_Rat ⟨b0, b1⟩ a
structure Pitch where
  step : Int
  alter : Int
  octave : Int
  deriving DecidableEq
instance : Enc Pitch := ⟨fun r => .agg [.int .i64 r.step, .int .i64 r.alter, .int .i64 r.octave], fun d => match d with | .agg [.int _ x0, .int _ x1, .int _ x2] => ⟨x0, x1, x2⟩ | _ => ⟨0, 0, 0⟩, 3, fun _ => rfl, fun _ => rfl, by simp [D.cells, D.one, enc_list]⟩
theorem enc_Pitch (r : Pitch) : Enc.enc r = .agg [.int .i64 r.step, .int .i64 r.alter, .int .i64 r.octave] := rfl
theorem dec_Pitch (k0 k1 k2 : IntKind) (x0 : Int) (x1 : Int) (x2 : Int) : (Enc.dec (.agg [.int k0 x0, .int k1 x1, .int k2 x2]) : Pitch) = ⟨x0, x1, x2⟩ := rfl
theorem size_Pitch : Enc.size Pitch = 3 := rfl
theorem eta_Pitch (r : Pitch) : (⟨r.step, r.alter, r.octave⟩ : Pitch) = r := rfl
theorem beqL_Pitch (a b : Pitch) : beqDs [.int .i64 a.step, .int .i64 a.alter, .int .i64 a.octave] [.int .i64 b.step, .int .i64 b.alter, .int .i64 b.octave] = decide (a = b) := by
  rw [Bool.eq_iff_iff]; rcases a with ⟨a1, a2, a3⟩; rcases b with ⟨b1, b2, b3⟩; simp [beqDs, beqD, and_assoc]
theorem beqR_Pitch (a : Pitch) (b0 : Int) (b1 : Int) (b2 : Int) : beqDs [.int .i64 a.step, .int .i64 a.alter, .int .i64 a.octave] [.int .i64 b0, .int .i64 b1, .int .i64 b2] = decide (a = ⟨b0, b1, b2⟩) := beqL_Pitch a ⟨b0, b1, b2⟩
theorem beqS_Pitch (a : Pitch) (b0 : Int) (b1 : Int) (b2 : Int) : beqDs [.int .i64 b0, .int .i64 b1, .int .i64 b2] [.int .i64 a.step, .int .i64 a.alter, .int .i64 a.octave] = decide ((⟨b0, b1, b2⟩ : Pitch) = a) := beqL_Pitch ⟨b0, b1, b2⟩ a
structure Written where
  id : Int
  voice : Int
  ossia : Int
  start : Rat
  length : Rat
  pitch : Pitch
  deriving DecidableEq
instance : Enc Written := ⟨fun r => .agg [.int .i64 r.id, .int .i64 r.voice, .int .i64 r.ossia, .int .i64 r.start.n, .int .i64 r.start.d, .int .i64 r.length.n, .int .i64 r.length.d, .int .i64 r.pitch.step, .int .i64 r.pitch.alter, .int .i64 r.pitch.octave], fun d => match d with | .agg [.int _ x0, .int _ x1, .int _ x2, .int _ x3, .int _ x4, .int _ x5, .int _ x6, .int _ x7, .int _ x8, .int _ x9] => ⟨x0, x1, x2, ⟨x3, x4⟩, ⟨x5, x6⟩, ⟨x7, x8, x9⟩⟩ | _ => ⟨0, 0, 0, ⟨0, 0⟩, ⟨0, 0⟩, ⟨0, 0, 0⟩⟩, 10, fun _ => rfl, fun _ => rfl, by simp [D.cells, D.one, enc_list]⟩
theorem enc_Written (r : Written) : Enc.enc r = .agg [.int .i64 r.id, .int .i64 r.voice, .int .i64 r.ossia, .int .i64 r.start.n, .int .i64 r.start.d, .int .i64 r.length.n, .int .i64 r.length.d, .int .i64 r.pitch.step, .int .i64 r.pitch.alter, .int .i64 r.pitch.octave] := rfl
theorem dec_Written (k0 k1 k2 k3 k4 k5 k6 k7 k8 k9 : IntKind) (x0 : Int) (x1 : Int) (x2 : Int) (x3 : Int) (x4 : Int) (x5 : Int) (x6 : Int) (x7 : Int) (x8 : Int) (x9 : Int) : (Enc.dec (.agg [.int k0 x0, .int k1 x1, .int k2 x2, .int k3 x3, .int k4 x4, .int k5 x5, .int k6 x6, .int k7 x7, .int k8 x8, .int k9 x9]) : Written) = ⟨x0, x1, x2, ⟨x3, x4⟩, ⟨x5, x6⟩, ⟨x7, x8, x9⟩⟩ := rfl
theorem size_Written : Enc.size Written = 10 := rfl
theorem eta_Written (r : Written) : (⟨r.id, r.voice, r.ossia, r.start, r.length, r.pitch⟩ : Written) = r := rfl
theorem beqL_Written (a b : Written) : beqDs [.int .i64 a.id, .int .i64 a.voice, .int .i64 a.ossia, .int .i64 a.start.n, .int .i64 a.start.d, .int .i64 a.length.n, .int .i64 a.length.d, .int .i64 a.pitch.step, .int .i64 a.pitch.alter, .int .i64 a.pitch.octave] [.int .i64 b.id, .int .i64 b.voice, .int .i64 b.ossia, .int .i64 b.start.n, .int .i64 b.start.d, .int .i64 b.length.n, .int .i64 b.length.d, .int .i64 b.pitch.step, .int .i64 b.pitch.alter, .int .i64 b.pitch.octave] = decide (a = b) := by
  rw [Bool.eq_iff_iff]; rcases a with ⟨a1, a2, a3, ⟨a4, a5⟩, ⟨a6, a7⟩, ⟨a8, a9, a10⟩⟩; rcases b with ⟨b1, b2, b3, ⟨b4, b5⟩, ⟨b6, b7⟩, ⟨b8, b9, b10⟩⟩; simp [beqDs, beqD, and_assoc]
theorem beqR_Written (a : Written) (b0 : Int) (b1 : Int) (b2 : Int) (b3 : Int) (b4 : Int) (b5 : Int) (b6 : Int) (b7 : Int) (b8 : Int) (b9 : Int) : beqDs [.int .i64 a.id, .int .i64 a.voice, .int .i64 a.ossia, .int .i64 a.start.n, .int .i64 a.start.d, .int .i64 a.length.n, .int .i64 a.length.d, .int .i64 a.pitch.step, .int .i64 a.pitch.alter, .int .i64 a.pitch.octave] [.int .i64 b0, .int .i64 b1, .int .i64 b2, .int .i64 b3, .int .i64 b4, .int .i64 b5, .int .i64 b6, .int .i64 b7, .int .i64 b8, .int .i64 b9] = decide (a = ⟨b0, b1, b2, ⟨b3, b4⟩, ⟨b5, b6⟩, ⟨b7, b8, b9⟩⟩) := beqL_Written a ⟨b0, b1, b2, ⟨b3, b4⟩, ⟨b5, b6⟩, ⟨b7, b8, b9⟩⟩
theorem beqS_Written (a : Written) (b0 : Int) (b1 : Int) (b2 : Int) (b3 : Int) (b4 : Int) (b5 : Int) (b6 : Int) (b7 : Int) (b8 : Int) (b9 : Int) : beqDs [.int .i64 b0, .int .i64 b1, .int .i64 b2, .int .i64 b3, .int .i64 b4, .int .i64 b5, .int .i64 b6, .int .i64 b7, .int .i64 b8, .int .i64 b9] [.int .i64 a.id, .int .i64 a.voice, .int .i64 a.ossia, .int .i64 a.start.n, .int .i64 a.start.d, .int .i64 a.length.n, .int .i64 a.length.d, .int .i64 a.pitch.step, .int .i64 a.pitch.alter, .int .i64 a.pitch.octave] = decide ((⟨b0, b1, b2, ⟨b3, b4⟩, ⟨b5, b6⟩, ⟨b7, b8, b9⟩⟩ : Written) = a) := beqL_Written ⟨b0, b1, b2, ⟨b3, b4⟩, ⟨b5, b6⟩, ⟨b7, b8, b9⟩⟩ a
structure Measure where
  bar : Int
  key : Int
  length : Rat
  notes : (List Written)
  deriving DecidableEq
instance : Enc Measure := ⟨fun r => .agg [.int .i64 r.bar, .int .i64 r.key, .int .i64 r.length.n, .int .i64 r.length.d, Enc.enc (r.notes : (List Written))], fun d => match d with | .agg [.int _ x0, .int _ x1, .int _ x2, .int _ x3, x4] => ⟨x0, x1, ⟨x2, x3⟩, Enc.dec x4⟩ | _ => ⟨0, 0, ⟨0, 0⟩, []⟩, 5, fun a => by cases a; simp [Enc.dec_enc], fun _ => rfl, by simp [D.cells, D.one, enc_list]⟩
theorem enc_Measure (r : Measure) : Enc.enc r = .agg [.int .i64 r.bar, .int .i64 r.key, .int .i64 r.length.n, .int .i64 r.length.d, Enc.enc (r.notes : (List Written))] := rfl
theorem dec_Measure (k0 k1 k2 k3 : IntKind) (x0 : Int) (x1 : Int) (x2 : Int) (x3 : Int) (x4 : D) : (Enc.dec (.agg [.int k0 x0, .int k1 x1, .int k2 x2, .int k3 x3, x4]) : Measure) = ⟨x0, x1, ⟨x2, x3⟩, Enc.dec x4⟩ := rfl
theorem size_Measure : Enc.size Measure = 5 := rfl
theorem eta_Measure (r : Measure) : (⟨r.bar, r.key, r.length, r.notes⟩ : Measure) = r := rfl
structure View where
  part : Int
  measures : (List Measure)
  deriving DecidableEq
instance : Enc View := ⟨fun r => .agg [.int .i64 r.part, Enc.enc (r.measures : (List Measure))], fun d => match d with | .agg [.int _ x0, x1] => ⟨x0, Enc.dec x1⟩ | _ => ⟨0, []⟩, 2, fun a => by cases a; simp [Enc.dec_enc], fun _ => rfl, by simp [D.cells, D.one, enc_list]⟩
theorem enc_View (r : View) : Enc.enc r = .agg [.int .i64 r.part, Enc.enc (r.measures : (List Measure))] := rfl
theorem dec_View (k0 : IntKind) (x0 : Int) (x1 : D) : (Enc.dec (.agg [.int k0 x0, x1]) : View) = ⟨x0, Enc.dec x1⟩ := rfl
theorem size_View : Enc.size View = 2 := rfl
theorem eta_View (r : View) : (⟨r.part, r.measures⟩ : View) = r := rfl
structure Fraction where
  n : Int
  d : Int
  deriving DecidableEq
instance : Enc Fraction := ⟨fun r => .agg [.int .i64 r.n, .int .i64 r.d], fun d => match d with | .agg [.int _ x0, .int _ x1] => ⟨x0, x1⟩ | _ => ⟨0, 0⟩, 2, fun _ => rfl, fun _ => rfl, by simp [D.cells, D.one, enc_list]⟩
theorem enc_Fraction (r : Fraction) : Enc.enc r = .agg [.int .i64 r.n, .int .i64 r.d] := rfl
theorem dec_Fraction (k0 k1 : IntKind) (x0 : Int) (x1 : Int) : (Enc.dec (.agg [.int k0 x0, .int k1 x1]) : Fraction) = ⟨x0, x1⟩ := rfl
theorem size_Fraction : Enc.size Fraction = 2 := rfl
theorem eta_Fraction (r : Fraction) : (⟨r.n, r.d⟩ : Fraction) = r := rfl
theorem beqL_Fraction (a b : Fraction) : beqDs [.int .i64 a.n, .int .i64 a.d] [.int .i64 b.n, .int .i64 b.d] = decide (a = b) := by
  rw [Bool.eq_iff_iff]; rcases a with ⟨a1, a2⟩; rcases b with ⟨b1, b2⟩; simp [beqDs, beqD, and_assoc]
theorem beqR_Fraction (a : Fraction) (b0 : Int) (b1 : Int) : beqDs [.int .i64 a.n, .int .i64 a.d] [.int .i64 b0, .int .i64 b1] = decide (a = ⟨b0, b1⟩) := beqL_Fraction a ⟨b0, b1⟩
theorem beqS_Fraction (a : Fraction) (b0 : Int) (b1 : Int) : beqDs [.int .i64 b0, .int .i64 b1] [.int .i64 a.n, .int .i64 a.d] = decide ((⟨b0, b1⟩ : Fraction) = a) := beqL_Fraction ⟨b0, b1⟩ a
class Onn where
  on : Prop
def natTab : List Int := [0, 2, 4, 5, 7, 9, 11]
def tabs : Nat → Option D := fun g => if g = 0 then some (.agg (natTab.map Enc.enc)) else none
instance drwS [Onn] : Drw := ⟨Onn.on, tabs⟩
theorem dat0 [Onn] : Drw.dat 0 = some (.agg (natTab.map Enc.enc)) := rfl
theorem len_natTab : natTab.length = 7 := rfl
theorem mixed : Tryd.prog.follows .mixedOrders = true := by kernel_rfl
def eqTab : List (Nat × List Lf) := [(4, [.bool]), (34, [.int .i64, .int .i64]), (36, [.int .i64, .int .i64, .int .i64]), (38, [.int .i64, .int .i64, .int .i64, .int .i64, .int .i64, .int .i64, .int .i64, .int .i64, .int .i64, .int .i64]), (114, [.int .i64, .int .i64])]
theorem eqTab_ok : EqOk Tryd.prog (lfFind eqTab) := EqOk.of_tab (by kernel_rfl)
theorem eqT4 : lfFind eqTab 4 = some [.bool] := rfl
theorem eqT34 : lfFind eqTab 34 = some [.int .i64, .int .i64] := rfl
theorem eqT36 : lfFind eqTab 36 = some [.int .i64, .int .i64, .int .i64] := rfl
theorem eqT38 : lfFind eqTab 38 = some [.int .i64, .int .i64, .int .i64, .int .i64, .int .i64, .int .i64, .int .i64, .int .i64, .int .i64, .int .i64] := rfl
theorem eqT114 : lfFind eqTab 114 = some [.int .i64, .int .i64] := rfl
noncomputable def env (l : List (FuncId × Eva.Spec)) : Env := { E := tenv, C := cfind l, okEq := lfFind eqTab, P := Tryd.prog }
theorem env_ok [Drw] {l : List (FuncId × Eva.Spec)} (h : Specs Tryd.prog l) : VOk Tryd.prog (env l) := haveI := rndX; ⟨tenv_ok, h.ok, eqTab_ok, (fun _ _ _ _ h => by cases h), rfl⟩
end Go.Proofs.YtjfkfkjkbgiciaaDoor
namespace Go.Proofs.YtjfkfkjkbgiciaaDoor
open Go Go.Eva Enc
noncomputable def pWithin_r1 (n : Int) (lo : Int) (hi : Int) : Option Bool :=
  (ifb (decide (lo ≤ n)) (some (decide (n ≤ hi))) (some false))
noncomputable def pWithin (n : Int) (lo : Int) (hi : Int) : Option Bool :=
  bnd (pWithin_r1 n lo hi) fun y2u6 =>
  some y2u6
noncomputable def pValid_r1 (p : Pitch) : Option Bool :=
  (bnd (pWithin p.step 0 6) fun x2 =>
  ifb x2 (bnd (pWithin p.alter (-4) 4) fun x4 =>
  ifb x4 (bnd (pWithin p.octave (-8) 20) fun x6 =>
  some x6) (some false)) (some false))
noncomputable def pValid (p : Pitch) : Option Bool :=
  bnd (pValid_r1 p) fun y8u2 =>
  some y8u2
noncomputable def pnumber (p : Pitch) : Option Int :=
  grd (inI (12 * p.octave)) (bnd (at? natTab p.step) fun x3 =>
  grd (inI ((12 * p.octave) + x3)) (grd (inI (((12 * p.octave) + x3) + p.alter)) (some (((12 * p.octave) + x3) + p.alter))))
noncomputable def pNumber (p : Pitch) : Option (Int × Int) :=
  bnd (pValid p) fun x3 =>
  ifb (!x3) (some (0, 1))
  (bnd (pnumber p) fun x8 =>
  some (x8, 0))
noncomputable def isNaN (x : Int) : Option Bool :=
  some false
noncomputable def cCompare (x : Int) (y : Int) : Option Int :=
  bnd (isNaN x) fun x2 =>
  bnd (isNaN y) fun x5 =>
  ifb x2 (ifb x5 (some 0)
  (some (-1)))
  (ifb x5 (some 1)
  (ifb (decide (x < y)) (some (-1))
  (ifb (decide (y < x)) (some 1)
  (some 0))))
noncomputable def cOr_j6 (z2u8 : Int) : Option ((Int) ⊕ ((Int) ⊕ (Unit))) :=
  grd (inI (z2u8 + 1)) (some (.inl (z2u8 + 1)))
noncomputable def cOr_s5 (vals : (List Int)) : Int → Option ((Int) ⊕ ((Int) ⊕ (Unit))) := fun (z2u8 : Int) =>
  ifb (decide (z2u8 < (vals.length : Int))) (bnd (at? vals z2u8) fun x44 =>
  ifb (!decide (x44 = 0)) (some (.inr (.inl x44)))
  (cOr_j6 z2u8))
  (some (.inr (.inr ())))
noncomputable def cOr_j1 : Option Int :=
  some 0
noncomputable def cOr (vals : (List Int)) : Option Int :=
  bnd (loopO (cOr_s5 vals) 0) fun o33 =>
  match o33 with
  | .inl q54u0 => some q54u0
  | .inr () => cOr_j1
noncomputable def rsize (n : Int) : Option Int :=
  grd (inI (0 - n)) (some (max n (0 - n)))
end Go.Proofs.YtjfkfkjkbgiciaaDoor
namespace Go.Proofs.YtjfkfkjkbgiciaaDoor
open Go Go.Eva Enc
set_option maxRecDepth 4000
attribute [local instance] rndX
attribute [local congr] AWp.congrS
attribute [local simp] evalSeq opRes guardPc evalOp evT Eva.get startT strip putT Eva.after constT typed obAll holds dstOk R.ok R.bad ofD binD unD pickT subL subP Op.operands Call.operands toD toD1 argsD argsD1 callD callT typedAll cfind quietT quietT1 spec0 spec1 spec2 spec3 enc_int enc_bool enc_str enc_fn enc_list dec_int dec_bool dec_str dec_fn dec_list size_int size_str map_dec_enc map_dec_comp cellsT D.cells T.oneT D.one mkT dataT zeroT unD1 setAt loadAs loadEl storeAs fieldP fieldV sizeE intOfT indexP appendT lenT sliceT elemSize arith lfsOk lfOk isAggD mkD fillT placeS TD.agg env restr List.map keyIdx mapTy lookT mapPutT mapDelT mapOf indexS convT evalPure range1 range2 range3 range4 range5 range6 range7 range8 enc_intk size_intk dec_intk eta_intk keysInt_nil keyIdx_E keysInt_E isE_iff put_E del_E get_E getok_E mkeys_E mkeys_E' mkeys_enc specO0 specO1 specO2 specO3 specO4 opD skips gone unbox cloT subO clearT makeT enc_bx dec_bx size_bx selS cloIs List.contains_cons List.contains_nil elAt_zero enc_Rat dec_Rat size_Rat eta_Rat beqL_Rat beqR_Rat enc_Pitch dec_Pitch size_Pitch eta_Pitch beqL_Pitch beqR_Pitch enc_Written dec_Written size_Written eta_Written beqL_Written beqR_Written enc_Measure dec_Measure size_Measure eta_Measure enc_View dec_View size_View eta_View enc_Fraction dec_Fraction size_Fraction eta_Fraction beqL_Fraction beqR_Fraction dat0 len_natTab eqT4 eqT34 eqT36 eqT38 eqT114 te1 te2 te3 te4 te5 te6 te7 te8 te9 te10 te11 te12 te13 te14 te15 te16 te17 te18 te19 te21 te22 te23 te24 te25 te26 te27 te28 te30 te31 te32 te33 te34 te35 te36 te37 te38 te39 te40 te41 te42 te43 te45 te46 te47 te48 te49 te50 te51 te52 te53 te55 te56 te57 te58 te59 te60 te61 te62 te63 te64 te65 te66 te67 te68 te69 te70 te71 te72 te73 te74 te75 te76 te77 te79 te80 te81 te82 te83 te84 te85 te86 te87 te88 te89 te90 te91 te92 te93 te94 te95 te96 te97 te98 te99 te100 te101 te102 te104 te105 te106 te108 te109 te110 te111 te112 te113 te114 te115 te116 te117 te118 te119 te120 te121 te122 te123 te124 te125 te126 te127 te128 te129 te130 te131 te133 te134 te135 te136 te137 te138 te139 te140 te141 te142 te143 te144 te145 te146 te147 te148 te149 te150
section
variable [Onn]
noncomputable def sp68 : Eva.Spec := specO3 fun (n : Int) (lo : Int) (hi : Int) => (pWithin n lo hi).map fun r => enc r
theorem ok68 : SpecOk Tryd.prog 68 sp68 := by
 have hV : VOk Tryd.prog (env []) := env_ok trivial
 refine SpecOk.ofO3 (Enters.of Tryd.func68 (by decide)) fun n lo hi rr hr => ?_
 obtain ⟨r, hg, rfl⟩ := mpj hr; clear hr
 refine PureCon.ofN hV Tryd.func68 rfl Tryd.ntmps68 fun R hR w0 I0 Q hQ => ?_
 unfold pWithin at hg
 refine AWp.rS hV none [0, 1, 2] fun K k1 => ?_
 simp; repeat refine ai ?_
 refine kc [se 0 n, se 1 lo, se 2 hi] [] (k1 _ ?_)
 obtain ⟨y2u6, hx3, hg⟩ := bnd_some hg
 unfold pWithin_r1 at hx3
 refine AWp.seqJ (fun s' => Sub s' ⟨[se 6 y2u6], []⟩) (fun _ k4 => ?_) ?_
 ·rcases ifb_o hx3 with ⟨c5, hx3⟩ | ⟨c5, hx3⟩
  ·have c5g := c5; try simp at c5g
   refine AWp.regF hV (some []) [6] fun K k6 => ?_
   simp [c5, c5g]; repeat refine ai ?_
   cases hx3; exact k6 _ (k4 _ (Sub.rm []))
  ·have c5g := c5; try simp at c5g
   refine AWp.regF hV (some [11, 12, 13]) [6] fun K k7 => ?_
   simp [c5, c5g]; repeat refine ai ?_
   cases hx3; exact k7 _ (k4 _ (Sub.rm []))
 ·intro s' hs
  refine AWp.sub hs ?_
  clear hs s'
  refine AWp.ret ?_
  cases hg; exact hQ _ _ (.inl rfl) rt
noncomputable def sp59 : Eva.Spec := specO1 fun (p : Pitch) => (pValid p).map fun r => enc r
theorem ok59 : SpecOk Tryd.prog 59 sp59 := by
 have hV : VOk Tryd.prog (env [(68, sp68)]) := env_ok ⟨ok68, trivial⟩
 refine SpecOk.ofO1 (Enters.of Tryd.func59 (by decide)) fun p rr hr => ?_
 obtain ⟨r, hg, rfl⟩ := mpj hr; clear hr
 refine PureCon.ofN hV Tryd.func59 rfl Tryd.ntmps59 fun R hR w0 I0 Q hQ => ?_
 unfold pValid at hg
 refine AWp.rS hV none [1] fun K k1 => ?_
 simp; repeat refine ai ?_
 refine kc [(1, .ptr 0 0)] [.w 36 p] (k1 _ ?_)
 obtain ⟨y8u2, hx9, hg⟩ := bnd_some hg
 unfold pValid_r1 at hx9
 refine AWp.seqJ (fun s' => Sub s' ⟨[se 2 y8u2], []⟩) (fun _ k10 => ?_) ?_
 ·obtain ⟨x2, h3, hx9⟩ := bnd_some hx9
  have h3g := h3; try simp at h3g
  rcases ifb_o hx9 with ⟨c11, hx9⟩ | ⟨c11, hx9⟩
  ·obtain ⟨x4, h5, hx9⟩ := bnd_some hx9
   have h5g := h5; try simp at h5g
   rcases ifb_o hx9 with ⟨c12, hx9⟩ | ⟨c12, hx9⟩
   ·obtain ⟨x6, h7, hx9⟩ := bnd_some hx9
    have h7g := h7; try simp at h7g
    refine AWp.regF hV (some []) [2] fun K k13 => ?_
    simp [sp68, h3, h3g, c11, h5, h5g, c12, h7, h7g]; repeat refine ai ?_
    cases hx9; exact k13 _ (k10 _ (Sub.rm []))
   ·refine AWp.regF hV (some [12, 13, 14]) [2] fun K k14 => ?_
    simp [sp68, h3, h3g, c11, h5, h5g, c12]; repeat refine ai ?_
    cases hx9; exact k14 _ (k10 _ (Sub.rm []))
  ·refine AWp.regF hV (some [7, 8, 9, 12, 13, 14]) [2] fun K k15 => ?_
   simp [sp68, h3, h3g, c11]; repeat refine ai ?_
   cases hx9; exact k15 _ (k10 _ (Sub.rm []))
 ·intro s' hs
  refine AWp.sub hs ?_
  clear hs s'
  refine AWp.ret ?_
  cases hg; exact hQ _ _ (.inl rfl) rt
noncomputable def sp64 : Eva.Spec := specO1 fun (p : Pitch) => (pnumber p).map fun r => enc r
theorem ok64 : SpecOk Tryd.prog 64 sp64 := by
 have hV : VOk Tryd.prog (env []) := env_ok trivial
 refine SpecOk.ofO1 (Enters.of Tryd.func64 (by decide)) fun p rr hr => ?_
 obtain ⟨r, hg, rfl⟩ := mpj hr; clear hr
 refine PureCon.ofN hV Tryd.func64 rfl Tryd.ntmps64 fun R hR w0 I0 Q hQ => ?_
 unfold pnumber at hg
 refine AWp.rS hV none [1] fun K k1 => ?_
 simp; repeat refine ai ?_
 refine kc [(1, .ptr 0 0)] [.w 36 p] (k1 _ ?_)
 obtain ⟨g2, hg⟩ := grd_some hg
 unfold inI at g2
 obtain ⟨x3, h4, hg⟩ := bnd_some hg
 obtain ⟨h4a, h4b, h4c⟩ := at_some h4
 have h4f := cell_enc h4c
 have h4g := h4b
 try simp at h4g
 obtain ⟨g5, hg⟩ := grd_some hg
 unfold inI at g5
 obtain ⟨g6, hg⟩ := grd_some hg
 unfold inI at g6
 refine AWp.rDF hV mixed none 10 [] [2] (by decide) fun K k7 => ?_
 simp [h4f]; repeat refine ai ?_
 refine kd [se 2 ((((12 * p.octave) + x3) + p.alter) : Int)] [.w 36 p] (by first | rfl | (simp [h4f] <;> grind)) (k7 _ ?_)
 refine AWp.ret ?_
 cases hg; exact hQ _ _ (.inl rfl) rt
noncomputable def sp44 : Eva.Spec := specO1 fun (p : Pitch) => (pNumber p).map fun r => .tup [enc r.1, enc r.2]
theorem ok44 : SpecOk Tryd.prog 44 sp44 := by
 have hV : VOk Tryd.prog (env [(59, sp59), (64, sp64)]) := env_ok ⟨ok59, ok64, trivial⟩
 refine SpecOk.ofO1 (Enters.of Tryd.func44 (by decide)) fun p rr hr => ?_
 obtain ⟨r, hg, rfl⟩ := mpj hr; clear hr
 refine PureCon.ofN hV Tryd.func44 rfl Tryd.ntmps44 fun R hR w0 I0 Q hQ => ?_
 unfold pNumber at hg
 refine AWp.rS hV none [1] fun K k1 => ?_
 simp; repeat refine ai ?_
 refine kc [(1, .ptr 0 0)] [.w 36 p] (k1 _ ?_)
 refine AWp.seqG fun _ k2 => ?_
 obtain ⟨x3, h4, hg⟩ := bnd_some hg
 refine AWp.rS hV none [1, 6] fun K k5 => ?_
 simp [sp59, h4]; repeat refine ai ?_
 refine kd [(1, .ptr 0 0), se 6 (!x3)] [.w 36 p] (by first | rfl | (simp [sp59, h4] <;> grind)) (k5 _ ?_)
 refine AWp.cnd hg rfl ?_ ?_ <;> (clear hg; intro h6 hg)
 ·refine AWp.rS hV none [2, 3] fun K k7 => ?_
  simp; repeat refine ai ?_
  refine kc [se 2 (0 : Int), se 3 (1 : Int)] [.w 36 p] (k7 _ ?_)
  refine AWp.ret ?_
  cases hg; exact hQ _ _ (.inl rfl) rt
 ·refine AWp.skip ?_
  refine k2 _ ?_
  obtain ⟨x8, h9, hg⟩ := bnd_some hg
  refine AWp.rS hV none [2, 3] fun K k10 => ?_
  simp [sp64, h9]; repeat refine ai ?_
  refine kd [se 2 x8, se 3 (0 : Int)] [.w 36 p] (by first | rfl | (simp [sp64, h9] <;> grind)) (k10 _ ?_)
  refine AWp.ret ?_
  cases hg; exact hQ _ _ (.inl rfl) rt
noncomputable def sp65 : Eva.Spec := specO1 fun (x : Int) => (isNaN x).map fun r => enc r
theorem ok65 : SpecOk Tryd.prog 65 sp65 := by
 have hV : VOk Tryd.prog (env []) := env_ok trivial
 refine SpecOk.ofO1 (Enters.of Tryd.func65 (by decide)) fun x rr hr => ?_
 obtain ⟨r, hg, rfl⟩ := mpj hr; clear hr
 refine PureCon.ofN hV Tryd.func65 rfl Tryd.ntmps65 fun R hR w0 I0 Q hQ => ?_
 unfold isNaN at hg
 refine AWp.rS hV none [0] fun K k1 => ?_
 simp; repeat refine ai ?_
 refine kc [se 0 x] [] (k1 _ ?_)
 refine AWp.rS hV none [2] fun K k2 => ?_
 simp; repeat refine ai ?_
 refine kc [se 2 false] [] (k2 _ ?_)
 refine AWp.ret ?_
 cases hg; exact hQ _ _ (.inl rfl) rt
noncomputable def sp46 : Eva.Spec := specO2 fun (x : Int) (y : Int) => (cCompare x y).map fun r => enc r
theorem ok46 : SpecOk Tryd.prog 46 sp46 := by
 have hV : VOk Tryd.prog (env [(65, sp65)]) := env_ok ⟨ok65, trivial⟩
 refine SpecOk.ofO2 (Enters.of Tryd.func46 (by decide)) fun x y rr hr => ?_
 obtain ⟨r, hg, rfl⟩ := mpj hr; clear hr
 refine PureCon.ofN hV Tryd.func46 rfl Tryd.ntmps46 fun R hR w0 I0 Q hQ => ?_
 unfold cCompare at hg
 refine AWp.rS hV none [0, 1] fun K k1 => ?_
 simp; repeat refine ai ?_
 refine kc [se 0 x, se 1 y] [] (k1 _ ?_)
 obtain ⟨x2, h3, hg⟩ := bnd_some hg
 refine AWp.rS hV none [0, 1, 5] fun K k4 => ?_
 simp [sp65, h3]; repeat refine ai ?_
 refine kd [se 0 x, se 1 y, se 5 x2] [] (by first | rfl | (simp [sp65, h3] <;> grind)) (k4 _ ?_)
 obtain ⟨x5, h6, hg⟩ := bnd_some hg
 refine AWp.rS hV none [0, 1, 5, 6] fun K k7 => ?_
 simp [sp65, h6]; repeat refine ai ?_
 refine kd [se 0 x, se 1 y, se 5 x2, se 6 x5] [] (by first | rfl | (simp [sp65, h6] <;> grind)) (k7 _ ?_)
 refine AWp.seqG fun _ k8 => ?_
 refine AWp.rS hV none [0, 1, 6, 11] fun K k9 => ?_
 simp; repeat refine ai ?_
 refine kc [se 0 x, se 1 y, se 6 x5, se 11 x2] [] (k9 _ ?_)
 refine AWp.cnd hg rfl ?_ ?_ <;> (clear hg; intro h10 hg)
 ·refine AWp.seqG fun _ k11 => ?_
  refine AWp.rS hV none [12] fun K k12 => ?_
  simp; repeat refine ai ?_
  refine kc [se 12 x5] [] (k12 _ ?_)
  refine AWp.cnd hg rfl ?_ ?_ <;> (clear hg; intro h13 hg)
  ·refine AWp.rS hV none [4] fun K k14 => ?_
   simp; repeat refine ai ?_
   refine kc [se 4 (0 : Int)] [] (k14 _ ?_)
   refine AWp.ret ?_
   cases hg; exact hQ _ _ (.inl rfl) rt
  ·refine AWp.skip ?_
   refine k11 _ ?_
   refine AWp.rS hV none [4] fun K k15 => ?_
   simp; repeat refine ai ?_
   refine kc [se 4 ((-1) : Int)] [] (k15 _ ?_)
   refine AWp.ret ?_
   cases hg; exact hQ _ _ (.inl rfl) rt
 ·refine AWp.skip ?_
  refine k8 _ ?_
  refine AWp.seqG fun _ k16 => ?_
  refine AWp.rS hV none [0, 1, 13] fun K k17 => ?_
  simp; repeat refine ai ?_
  refine kc [se 0 x, se 1 y, se 13 x5] [] (k17 _ ?_)
  refine AWp.cnd hg rfl ?_ ?_ <;> (clear hg; intro h18 hg)
  ·refine AWp.rS hV none [4] fun K k19 => ?_
   simp; repeat refine ai ?_
   refine kc [se 4 (1 : Int)] [] (k19 _ ?_)
   refine AWp.ret ?_
   cases hg; exact hQ _ _ (.inl rfl) rt
  ·refine AWp.skip ?_
   refine k16 _ ?_
   refine AWp.seqG fun _ k20 => ?_
   refine AWp.rS hV none [0, 1, 16] fun K k21 => ?_
   simp; repeat refine ai ?_
   refine kc [se 0 x, se 1 y, se 16 (decide (x < y))] [] (k21 _ ?_)
   refine AWp.cnd hg rfl ?_ ?_ <;> (clear hg; intro h22 hg)
   ·refine AWp.rS hV none [4] fun K k23 => ?_
    simp; repeat refine ai ?_
    refine kc [se 4 ((-1) : Int)] [] (k23 _ ?_)
    refine AWp.ret ?_
    cases hg; exact hQ _ _ (.inl rfl) rt
   ·refine AWp.skip ?_
    refine k20 _ ?_
    refine AWp.seqG fun _ k24 => ?_
    refine AWp.rS hV none [19] fun K k25 => ?_
    simp; repeat refine ai ?_
    refine kc [se 19 (decide (y < x))] [] (k25 _ ?_)
    refine AWp.cnd hg rfl ?_ ?_ <;> (clear hg; intro h26 hg)
    ·refine AWp.rS hV none [4] fun K k27 => ?_
     simp; repeat refine ai ?_
     refine kc [se 4 (1 : Int)] [] (k27 _ ?_)
     refine AWp.ret ?_
     cases hg; exact hQ _ _ (.inl rfl) rt
    ·refine AWp.skip ?_
     refine k24 _ ?_
     refine AWp.rS hV none [4] fun K k28 => ?_
     simp; repeat refine ai ?_
     refine kc [se 4 (0 : Int)] [] (k28 _ ?_)
     refine AWp.ret ?_
     cases hg; exact hQ _ _ (.inl rfl) rt
noncomputable def sp45 : Eva.Spec := specO1 fun (vals : (List Int)) => (cOr vals).map fun r => enc r
theorem ok45 : SpecOk Tryd.prog 45 sp45 := by
 have hV : VOk Tryd.prog (env []) := env_ok trivial
 refine SpecOk.ofO1 (Enters.of Tryd.func45 (by decide)) fun vals rr hr => ?_
 obtain ⟨r, hg, rfl⟩ := mpj hr; clear hr
 refine PureCon.ofN hV Tryd.func45 rfl Tryd.ntmps45 fun R hR w0 I0 Q hQ => ?_
 unfold cOr at hg
 refine AWp.rS hV none [0] fun K k1 => ?_
 simp; repeat refine ai ?_
 refine kc [se 0 vals] [] (k1 _ ?_)
 refine AWp.rS hV none [0, 3] fun K k2 => ?_
 simp; repeat refine ai ?_
 refine kc [se 0 vals, se 3 (0 : Int)] [] (k2 _ ?_)
 refine AWp.seqJ (fun s' => cOr_j1 = some r ∧ Sub s' ⟨[se 3 (0 : Int)], []⟩) (fun _ k4 => ?_) ?_
 ·refine AWp.rS hV none [3, 6, 7, 8] fun K k5 => ?_
  simp; repeat refine ai ?_
  refine kc [se 3 (0 : Int), se 6 vals, se 7 ((vals.length : Int) : Int), se 8 (0 : Int)] [] (k5 _ ?_)
  refine AWp.block ?_
  obtain ⟨o33, hl34, hq35⟩ := bnd_some hg; clear hg
  refine AWp.loopO (fun (z2u8 : Int) => ⟨[se 3 (0 : Int), se 6 vals, se 7 ((vals.length : Int) : Int), se 8 z2u8], []⟩) (cOr_s5 vals) 0 hl34 ?_ fun z2u8 w38 _ hg hx37 k6 => ?_
  ·exact Sub.rm []
  unfold cOr_s5 at hg; try dsimp only at hg
  show AWp _ _ _ _ _ ⟨[se 3 (0 : Int), se 6 vals, se 7 ((vals.length : Int) : Int), se 8 z2u8], []⟩ _
  refine AWp.rS hV none [3, 6, 7, 8, 9] fun K k39 => ?_
  simp; repeat refine ai ?_
  refine kc [se 3 (0 : Int), se 6 vals, se 7 ((vals.length : Int) : Int), se 8 z2u8, se 9 (decide (z2u8 < (vals.length : Int)))] [] (k39 _ ?_)
  refine AWp.seqG fun _ k40 => ?_
  refine AWp.cnd hg rfl ?_ ?_ <;> (clear hg; intro h41 hg)
  ·refine AWp.skip ?_
   refine k40 _ ?_
   refine AWp.seqJ (fun s' => cOr_j6 z2u8 = some w38 ∧ Sub s' ⟨[se 3 (0 : Int), se 6 vals, se 7 ((vals.length : Int) : Int), se 8 z2u8], []⟩) (fun _ k43 => ?_) ?_
   ·refine AWp.block ?_
    obtain ⟨x44, h45, hg⟩ := bnd_some hg
    obtain ⟨h45a, h45b, h45f⟩ := at_e h45; have h45g := h45f; try simp at h45g
    refine AWp.rS hV none [3, 5, 6, 7, 8] fun K k46 => ?_
    simp [h45f, h45g]; repeat refine ai ?_
    refine kd [se 3 (0 : Int), se 5 x44, se 6 vals, se 7 ((vals.length : Int) : Int), se 8 z2u8] [] (by first | rfl | (simp [h45f, h45g] <;> grind)) (k46 _ ?_)
    refine AWp.rS hV none [3, 5, 6, 7, 8, 14] fun K k47 => ?_
    simp; repeat refine ai ?_
    refine kc [se 3 (0 : Int), se 5 x44, se 6 vals, se 7 ((vals.length : Int) : Int), se 8 z2u8, se 14 (!decide (x44 = 0))] [] (k47 _ ?_)
    refine AWp.cnd hg rfl ?_ ?_ <;> (clear hg; intro h48 hg)
    ·refine AWp.rS hV none [2] fun K k49 => ?_
     simp; repeat refine ai ?_
     refine kc [se 2 x44] [] (k49 _ ?_)
     refine AWp.ret ?_
     cases hx37 _ (oij hg).symm; have hg := hq35; try dsimp only at hg
     cases hg; exact hQ _ _ (.inl rfl) rt
    ·refine AWp.skip ?_
     exact k43 _ ⟨hg, Sub.rm []⟩
   ·rintro s' ⟨hg, hs⟩
    unfold cOr_j6 at hg
    refine AWp.sub hs ?_
    obtain ⟨g51, hg⟩ := grd_some hg
    unfold inI at g51
    refine AWp.regF hV none [3, 6, 7, 8] fun K k52 => ?_
    simp; repeat refine ai ?_
    refine kc [se 3 (0 : Int), se 6 vals, se 7 ((vals.length : Int) : Int), se 8 ((z2u8 + 1) : Int)] [] (k52 _ ?_)
    exact k6 _ _ (oij hg).symm (Sub.rm [])
  ·refine AWp.exit ?_
   cases hx37 _ (oij hg).symm; have hg := hq35; try dsimp only at hg
   exact k4 _ ⟨hg, Sub.rm []⟩
 ·rintro s' ⟨hg, hs⟩
  unfold cOr_j1 at hg
  refine AWp.sub hs ?_
  refine AWp.rS hV none [2] fun K k56 => ?_
  simp; repeat refine ai ?_
  refine kc [se 2 (0 : Int)] [] (k56 _ ?_)
  refine AWp.ret ?_
  cases hg; exact hQ _ _ (.inl rfl) rt
noncomputable def sp95 : Eva.Spec := specO1 fun (n : Int) => (rsize n).map fun r => enc r
theorem ok95 : SpecOk Tryd.prog 95 sp95 := by
 have hV : VOk Tryd.prog (env []) := env_ok trivial
 refine SpecOk.ofO1 (Enters.of Tryd.func95 (by decide)) fun n rr hr => ?_
 obtain ⟨r, hg, rfl⟩ := mpj hr; clear hr
 refine PureCon.ofN hV Tryd.func95 rfl Tryd.ntmps95 fun R hR w0 I0 Q hQ => ?_
 unfold rsize at hg
 refine AWp.rS hV none [0] fun K k1 => ?_
 simp; repeat refine ai ?_
 refine kc [se 0 n] [] (k1 _ ?_)
 obtain ⟨g2, hg⟩ := grd_some hg
 unfold inI at g2
 refine AWp.rS hV none [2] fun K k3 => ?_
 simp; repeat refine ai ?_
 refine kc [se 2 ((max n (0 - n)) : Int)] [] (k3 _ ?_)
 refine AWp.ret ?_
 cases hg; exact hQ _ _ (.inl rfl) rt
end
section
variable [Onn]
def pgcd (a b : Int) : Int := if h : b = 0 then a else pgcd b (a.tmod b)
termination_by b.natAbs
decreasing_by
  rw [Int.natAbs_tmod]
  exact Nat.mod_lt _ (by omega)
theorem pgcd_zero (a : Int) : pgcd a 0 = a := by rw [pgcd]; simp
theorem pgcd_step {a b : Int} (h : b ≠ 0) : pgcd a b = pgcd b (a.tmod b) := by rw [pgcd]; simp [h]
theorem sem122 : ∀ (k : Nat) (a b : Int) {LL : List AO} {id : Nat}, b.natAbs ≤ k → LL[id]? = some (.var 82 [.clo 94 [.ptr id 0]]) → Low LL →
    SemC Tryd.prog 94 [.d (.int .i64 a), .d (.int .i64 b), .ptr id 0] LL fun u l' => u = .d (.int .i64 (pgcd a b)) ∧ ∃ vals ft, l' = LL ++ [.frame LL.length vals ft]
  | k, a, b, LL, id, hk, hid, hlow => by
    have hV : VOk Tryd.prog (env []) := env_ok trivial
    refine SemC.of hV (Enters.of Tryd.func94 (by decide)) Tryd.func94 rfl (by rw [Tryd.ntmps94]; simp) fun R hR w0 I0 vals ft Q hQ => ?_
    rw [Tryd.ntmps94]
    have hid' := get_app hid [.frame LL.length vals ft]
    have hlow' := hlow.frame vals ft
    have hlast : (LL ++ [AO.frame LL.length vals ft])[LL.length]? = some (.frame LL.length vals ft) := by simp
    have hfin : ∀ (n : Int) (t : Tm), Eva.get t 5 = .d (.int .i64 n) → n = pgcd a b → ∀ st, Eva.Sub st ⟨t, LL ++ [AO.frame LL.length vals ft]⟩ → Q .ret st := by
      intro n t ht hn st hst
      refine hQ _ _ (.inl rfl) ⟨_, hst, by simp [resT], hlast, ?_, vals, ft, rfl⟩
      simp [resT, tupT, ht, hn]
    have hidl : id < LL.length := (List.getElem?_eq_some_iff.1 hid).1
    obtain ⟨L, hL⟩ : ∃ L, L = LL ++ [AO.frame LL.length vals ft] := ⟨_, rfl⟩
    rw [← hL] at hid' hlow' hfin ⊢
    simp only [startTT]
    refine AWp.rS hV none [0, 1, 2] fun K k1 => ?_
    simp
    refine kcong (s' := ⟨[(0, .d (.int .i64 a)), (1, .d (.int .i64 b)), (2, .ptr id 0)], L⟩) (by first | rfl | simp) (k1 _ ?_)
    refine AWp.seqJ (fun s' => b ≠ 0 ∧ Sub s' ⟨[(0, .d (.int .i64 a)), (1, .d (.int .i64 b)), (2, .ptr id 0)], L⟩) (fun _ k2 => ?_) ?_
    · refine AWp.rS hV none [0, 1, 2, 7] fun K k3 => ?_
      simp
      refine kcong (s' := ⟨[(0, .d (.int .i64 a)), (1, .d (.int .i64 b)), (2, .ptr id 0), (7, .d (.bool (decide (b = 0))))], L⟩) (by first | rfl | simp) (k3 _ ?_)
      refine AWp.cond (b := decide (b = 0)) rfl (fun h => ?_) fun h => ?_
      · have hb : b = 0 := by simpa using h
        refine AWp.rS hV none [5] fun K k4 => ?_
        simp
        refine kcong (s' := ⟨[(5, .d (.int .i64 a))], L⟩) (by first | rfl | simp) (k4 _ ?_)
        refine AWp.ret ?_
        exact hfin a _ rfl (by rw [hb, pgcd_zero]) _ (Sub.refl _)
      · refine AWp.skip (k2 _ ⟨by simpa using h, Sub.slots (by simp [forgets])⟩)
    · rintro s' ⟨hb, hs⟩
      refine AWp.sub hs ?_
      refine AWp.rDC hV mixed none 5 [] [9, 10, 13] [5] (by decide) (by decide) fun K k3 K1 h1 => ?_
      simp [hid', hb]
      refine kcong (s' := ⟨[(9, .clo 94 [.ptr id 0]), (10, .d (.int .i64 b)), (13, .d (.int .i64 (a.tmod b)))], L⟩) (by first | rfl | simp) (h1 _ ?_)
      refine RunAt.call hV 94 [.d (.int .i64 b), .d (.int .i64 (a.tmod b)), .ptr id 0] rfl rfl trivial (by decide) (by simp [cloOf]) fun K2 h2 => ?_
      have hlt : (a.tmod b).natAbs < b.natAbs := by rw [Int.natAbs_tmod]; exact Nat.mod_lt _ (by omega)
      match k, hk with
      | 0, hk => omega
      | k + 1, hk =>
        refine (sem122 k b (a.tmod b) (by omega) hid' hlow').mono ?_
        rintro _ _ ⟨rfl, vals2, ft2, rfl⟩
        refine h2 _ _ (RunAt.fin hV none ?_)
        simp
        refine kcong (s' := ⟨[(5, .d (.int .i64 (pgcd b (a.tmod b))))], L ++ [.frame L.length vals2 ft2]⟩) (by first | rfl | simp) (k3 _ ?_)
        refine AWp.ret ?_
        exact hfin _ [(5, .d (.int .i64 (pgcd b (a.tmod b))))] rfl (pgcd_step hb).symm _ (Sub.drop hlow' (by simp [T.lows]) (by simp [forgets]))
noncomputable def pRed2 (f : Fraction) (g : Int) : Option Fraction := grd (g ≠ 0) (grd (inI (f.n.tdiv g)) (grd (inI (f.d.tdiv g)) (some ⟨f.n.tdiv g, f.d.tdiv g⟩)))
noncomputable def pReduced (f : Fraction) : Option Fraction :=
  bnd (rsize f.n) fun a => bnd (rsize f.d) fun b =>
  ifb (decide (f.d < 0)) (grd (inI (0 - pgcd a b)) (pRed2 f (0 - pgcd a b))) (pRed2 f (pgcd a b))
noncomputable def sp79 : Eva.Spec := specO1 fun (f : Fraction) => (pReduced f).map fun r => enc r
theorem ok79 : SpecOk Tryd.prog 79 sp79 := by
  have hV : VOk Tryd.prog (env [(95, sp95)]) := env_ok ⟨ok95, trivial⟩
  refine SpecOk.ofO1 (Enters.of Tryd.func79 (by decide)) ?_
  intro f rr hr
  obtain ⟨r, hg, rfl⟩ := Option.map_eq_some_iff.1 hr
  clear hr
  refine PureCon.ofQ hV Tryd.func79 rfl (by rw [Tryd.ntmps79]; simp) fun R hR w0 I0 Q hQ => ?_
  rw [Tryd.ntmps79]
  unfold pReduced at hg
  obtain ⟨a, ha, hg⟩ := bnd_some hg
  obtain ⟨b, hb, hg⟩ := bnd_some hg
  refine AWp.rS hV none [1, 2] fun K k1 => ?_
  simp
  refine kcong (s' := ⟨[(1, .ptr 0 0), (2, .ptr 1 0)], [.var 114 (cellsT (.d (enc f))), .var 114 [.d (.int .i64 0), .d (.int .i64 0)]]⟩) (by first | rfl | simp) (k1 _ ?_)
  refine AWp.rS hV none [1, 2, 3] fun K k1 => ?_
  simp
  refine kcong (s' := ⟨[(1, .ptr 0 0), (2, .ptr 1 0), (3, .ptr 2 0)], [.var 114 (cellsT (.d (enc f))), .var 114 [.d (.int .i64 0), .d (.int .i64 0)], .var 82 [.d .nilfn]]⟩) (by first | rfl | simp) (k1 _ ?_)
  refine AWp.rS hV none [1, 2, 3] fun K k1 => ?_
  simp
  refine kcong (s' := ⟨[(1, .ptr 0 0), (2, .ptr 1 0), (3, .ptr 2 0)], [.var 114 (cellsT (.d (enc f))), .var 114 [.d (.int .i64 0), .d (.int .i64 0)], .var 82 [.clo 94 [.ptr 2 0]]]⟩) (by first | rfl | simp) (k1 _ ?_)
  refine AWp.rDC hV mixed none 7 [] [1, 2, 6, 9, 12] [1, 2, 4] (by decide) (by decide) fun K k3 K1 h1 => ?_
  simp [sp95, ha, hb]
  refine kcong (s' := ⟨[(1, .ptr 0 0), (2, .ptr 1 0), (6, .clo 94 [.ptr 2 0]), (9, .d (.int .i64 a)), (12, .d (.int .i64 b))], [.var 114 (cellsT (.d (enc f))), .var 114 [.d (.int .i64 0), .d (.int .i64 0)], .var 82 [.clo 94 [.ptr 2 0]]]⟩) (by first | rfl | simp) (h1 _ ?_)
  refine RunAt.call hV 94 [.d (.int .i64 a), .d (.int .i64 b), .ptr 2 0] rfl rfl trivial (by decide) (by simp [cloOf]) fun K2 h2 => ?_
  refine (sem122 b.natAbs a b (Nat.le_refl _) rfl (by simp [Low, AO.lows, T.lows, T.low1])).mono ?_
  rintro _ _ ⟨rfl, vals2, ft2, rfl⟩
  refine h2 _ _ (RunAt.fin hV none ?_)
  simp
  refine kcong (s' := ⟨[(1, .ptr 0 0), (2, .ptr 1 0), (4, .d (.int .i64 (pgcd a b)))], [.var 114 (cellsT (.d (enc f))), .var 114 [.d (.int .i64 0), .d (.int .i64 0)], .var 82 [.clo 94 [.ptr 2 0]]] ++ [.frame 3 vals2 ft2]⟩) (by first | rfl | simp) (k3 _ ?_)
  refine AWp.sub (s' := ⟨[(1, .ptr 0 0), (2, .ptr 1 0), (4, .d (.int .i64 (pgcd a b)))], [.var 114 (cellsT (.d (enc f))), .var 114 [.d (.int .i64 0), .d (.int .i64 0)]]⟩) (Sub.ren [0, 1] (by decide) (by simp [framesOk]) (by simp [renL, AO.ren, T.ren, T.ren2]) (by simp [forgetsR, T.ren, T.ren2, idx])) ?_
  refine AWp.seqJ (fun s' => ∃ g, pRed2 f g = some r ∧ Sub s' ⟨[(1, .ptr 0 0), (2, .ptr 1 0), (4, .d (.int .i64 g))], [.var 114 (cellsT (.d (enc f))), .var 114 [.d (.int .i64 0), .d (.int .i64 0)]]⟩) (fun _ k2 => ?_) ?_
  · refine AWp.rS hV none [1, 2, 4, 16] fun K k4 => ?_
    simp
    refine kcong (s' := ⟨[(1, .ptr 0 0), (2, .ptr 1 0), (4, .d (.int .i64 (pgcd a b))), (16, .d (.bool (decide (f.d < 0))))], [.var 114 (cellsT (.d (enc f))), .var 114 [.d (.int .i64 0), .d (.int .i64 0)]]⟩) (by first | rfl | simp) (k4 _ ?_)
    refine AWp.cond (b := decide (f.d < 0)) rfl (fun h => ?_) fun h => ?_
    · replace hg := ifb_t h hg
      obtain ⟨g1, hg⟩ := grd_some hg
      unfold inI at g1
      refine AWp.regF hV none [1, 2, 4] fun K k5 => ?_
      simp
      refine And.intro (by omega) ?_
      refine kcong (s' := ⟨[(1, .ptr 0 0), (2, .ptr 1 0), (4, .d (.int .i64 (0 - pgcd a b)))], [.var 114 (cellsT (.d (enc f))), .var 114 [.d (.int .i64 0), .d (.int .i64 0)]]⟩) (by first | rfl | simp) (k5 _ ?_)
      exact k2 _ ⟨_, hg, Sub.refl _⟩
    · replace hg := ifb_f h hg
      exact AWp.skip (k2 _ ⟨_, hg, Sub.slots (by simp [forgets])⟩)
  · rintro s' ⟨g, hg, hs⟩
    refine AWp.sub hs ?_
    unfold pRed2 at hg
    obtain ⟨g1, hg⟩ := grd_some hg
    obtain ⟨g2, hg⟩ := grd_some hg
    obtain ⟨g3, hg⟩ := grd_some hg
    unfold inI at g2 g3
    have hg := Option.some.inj hg
    subst hg
    refine AWp.rDF hV mixed none 9 [] [2] (by decide) fun K k5 => ?_
    simp
    repeat refine And.intro (by first | omega | exact g1) ?_
    refine kcong (s' := ⟨[(2, .ptr 1 0)], [.var 114 (cellsT (.d (enc f))), .var 114 (cellsT (.d (enc (⟨f.n.tdiv g, f.d.tdiv g⟩ : Fraction))))]⟩) (by first | rfl | simp) (k5 _ ?_)
    refine AWp.ret ?_
    refine hQ _ _ (.inl rfl) ?_
    simp [retOk, resT, loadAs]
end
end Go.Proofs.YtjfkfkjkbgiciaaDoor
namespace Go.Proofs.YtjfkfkjkbgiciaaDoor
open Go Go.Eva Enc
noncomputable def r02in_r1 (n : Int) (lo : Int) (hi : Int) : Option Bool :=
  (ifb (decide (lo ≤ n)) (some (decide (n ≤ hi))) (some false))
noncomputable def r02in (n : Int) (lo : Int) (hi : Int) : Option Bool :=
  bnd (r02in_r1 n lo hi) fun y2u6 =>
  some y2u6
noncomputable def r02nat_j1 (y4u3 : Int) : Option Int :=
  some y4u3
noncomputable def r02nat (s : Int) : Option Int :=
  grd (inI (2 * s)) (ifb (decide (2 < s)) (grd (inI ((2 * s) - 1)) (r02nat_j1 ((2 * s) - 1)))
  (r02nat_j1 (2 * s)))
noncomputable def r02Sound (p : Pitch) : Option Int :=
  grd (inI (12 * p.octave)) (bnd (r02nat p.step) fun x3 =>
  grd (inI ((12 * p.octave) + x3)) (grd (inI (((12 * p.octave) + x3) + p.alter)) (some (((12 * p.octave) + x3) + p.alter))))
noncomputable def r02Valid_r1 (p : Pitch) (x2 : Bool) (x5 : Bool) : Option Bool :=
  (ifb x2 (ifb x5 (bnd (r02in p.octave (-8) 20) fun x8 =>
  some x8) (some false)) (some false))
noncomputable def r02Valid (p : Pitch) : Option Bool :=
  bnd (r02in p.step 0 6) fun x2 =>
  bnd (r02in p.alter (-4) 4) fun x5 =>
  bnd (r02Valid_r1 p x2 x5) fun y10u2 =>
  some y10u2
noncomputable def r06gcd_s3 : (Int × Int) → Option ((Int × Int) ⊕ ((Int))) := fun (z2u0, z2u1) =>
  ifb (!decide (z2u1 = 0)) (grd (z2u1 ≠ 0) (some (.inl (z2u1, (Int.tmod z2u0 z2u1)))))
  (some (.inr z2u0))
noncomputable def r06gcd_j1 (y2u0 : Int) : Option Int :=
  some y2u0
noncomputable def r06gcd (a : Int) (b : Int) : Option Int :=
  bnd (loopO r06gcd_s3 (a, b)) fun q33u0 =>
  r06gcd_j1 q33u0
noncomputable def r06Ticks_r1 (q : Rat) : Option Bool :=
  (ifb (decide (q.d < 1)) (some true) (grd (q.d ≠ 0) (ifb (!decide ((Int.tmod 1680 q.d) = 0)) (some true) (ifb (decide (q.n < 0)) (some true) (ifb (decide (1000000000 < q.n)) (some true) (bnd (r06gcd q.n q.d) fun x4 =>
  some (!decide (x4 = 1))))))))
noncomputable def r06Ticks (q : Rat) : Option Int :=
  bnd (r06Ticks_r1 q) fun y6u29 =>
  ifb y6u29 (some (-1))
  (grd (q.d ≠ 0) (grd (inI (Int.tdiv 1680 q.d)) (grd (inI (q.n * (Int.tdiv 1680 q.d))) (some (q.n * (Int.tdiv 1680 q.d))))))
noncomputable def r06Duration (q : Rat) : Option Bool :=
  bnd (r06Ticks q) fun x2 =>
  some (decide (0 ≤ x2))
noncomputable def r14Before_j6 (z2u7 : Int) : Option ((Int) ⊕ ((Bool) ⊕ (Unit))) :=
  grd (inI (z2u7 + 1)) (some (.inl (z2u7 + 1)))
noncomputable def r14Before_s5 (a : Written) (b : Written) (x2 : Int) (x4 : Int) (x7 : Int) (x9 : Int) : Int → Option ((Int) ⊕ ((Bool) ⊕ (Unit))) := fun (z2u7 : Int) =>
  ifb (decide (z2u7 < (([x2, a.voice, x4, a.id]).length : Int))) (bnd (at? ([x2, a.voice, x4, a.id]) z2u7) fun x63 =>
  bnd (at? ([x7, b.voice, x9, b.id]) z2u7) fun x65 =>
  ifb (!decide (x63 = x65)) (bnd (at? ([x2, a.voice, x4, a.id]) z2u7) fun x69 =>
  bnd (at? ([x7, b.voice, x9, b.id]) z2u7) fun x71 =>
  some (.inr (.inl (decide (x69 < x71)))))
  (r14Before_j6 z2u7))
  (some (.inr (.inr ())))
noncomputable def r14Before_j1 : Option Bool :=
  some false
noncomputable def r14Before (a : Written) (b : Written) : Option Bool :=
  bnd (r06Ticks a.start) fun x2 =>
  bnd (r02Sound a.pitch) fun x4 =>
  bnd (r06Ticks b.start) fun x7 =>
  bnd (r02Sound b.pitch) fun x9 =>
  bnd (loopO (r14Before_s5 a b x2 x4 x7 x9) 0) fun o52 =>
  match o52 with
  | .inl q78u0 => some q78u0
  | .inr () => r14Before_j1
noncomputable def r14same_r1 (a : Measure) (b : Measure) : Option Bool :=
  (ifb (decide (a.bar = b.bar)) (ifb (decide (a.key = b.key)) (some (decide (a.length = b.length))) (some false)) (some false))
noncomputable def r14same (a : Measure) (b : Measure) : Option Bool :=
  bnd (r14same_r1 a b) fun y2u4 =>
  some y2u4
noncomputable def r14SameWritten_j6 (z2u5 : Int) : Option ((Int) ⊕ ((Bool) ⊕ (Unit))) :=
  grd (inI (z2u5 + 1)) (some (.inl (z2u5 + 1)))
noncomputable def r14SameWritten_s5 (a : (List Written)) (b : (List Written)) : Int → Option ((Int) ⊕ ((Bool) ⊕ (Unit))) := fun (z2u5 : Int) =>
  ifb (decide (z2u5 < (a.length : Int))) (bnd (at? a z2u5) fun x49 =>
  bnd (at? b z2u5) fun x51 =>
  ifb (!decide (x49 = x51)) (some (.inr (.inl false)))
  (r14SameWritten_j6 z2u5))
  (some (.inr (.inr ())))
noncomputable def r14SameWritten_j1 : Option Bool :=
  some true
noncomputable def r14SameWritten (a : (List Written)) (b : (List Written)) : Option Bool :=
  ifb (!decide ((a.length : Int) = (b.length : Int))) (some false)
  (bnd (loopO (r14SameWritten_s5 a b) 0) fun o38 =>
  match o38 with
  | .inl q60u0 => some q60u0
  | .inr () => r14SameWritten_j1)
noncomputable def r14SameMeasures_r9 (x83 : Bool) (x90 : Bool) : Option Bool :=
  (ifb (!x83) (some true) (some (!x90)))
noncomputable def r14SameMeasures_j8 (z2u5 : Int) : Option ((Int) ⊕ ((Bool) ⊕ (Unit))) :=
  grd (inI (z2u5 + 1)) (some (.inl (z2u5 + 1)))
noncomputable def r14SameMeasures_s7 (a : (List Measure)) (b : (List Measure)) : Int → Option ((Int) ⊕ ((Bool) ⊕ (Unit))) := fun (z2u5 : Int) =>
  ifb (decide (z2u5 < (a.length : Int))) (bnd (at? a z2u5) fun x79 =>
  bnd (at? b z2u5) fun x81 =>
  bnd (r14same x79 x81) fun x83 =>
  bnd (at? a z2u5) fun x86 =>
  bnd (at? b z2u5) fun x88 =>
  bnd (r14SameWritten x86.notes x88.notes) fun x90 =>
  bnd (r14SameMeasures_r9 x83 x90) fun y93u44 =>
  ifb y93u44 (some (.inr (.inl false)))
  (r14SameMeasures_j8 z2u5))
  (some (.inr (.inr ())))
noncomputable def r14SameMeasures_j1 : Option Bool :=
  some true
noncomputable def r14SameMeasures (a : (List Measure)) (b : (List Measure)) : Option Bool :=
  ifb (!decide ((a.length : Int) = (b.length : Int))) (some false)
  (bnd (loopO (r14SameMeasures_s7 a b) 0) fun o68 =>
  match o68 with
  | .inl q105u0 => some q105u0
  | .inr () => r14SameMeasures_j1)
noncomputable def r14Same_r1 (a : View) (b : View) (x2 : Bool) : Option Bool :=
  (ifb (decide (a.part = b.part)) (some x2) (some false))
noncomputable def r14Same (a : View) (b : View) : Option Bool :=
  bnd (r14SameMeasures a.measures b.measures) fun x2 =>
  bnd (r14Same_r1 a b x2) fun y5u4 =>
  some y5u4
noncomputable def r14Few_r8 (v : View) (z2u4 : Int) : Option Bool :=
  (ifb (decide (z2u4 < (v.measures.length : Int))) (some (decide (z2u4 < 61))) (some false))
noncomputable def r14Few_j9 (z2u4 : Int) (y53u3 : Int) : Option ((Int × Int) ⊕ ((Int))) :=
  grd (inI (z2u4 + 1)) (some (.inl (y53u3, (z2u4 + 1))))
noncomputable def r14Few_s7 (v : View) : (Int × Int) → Option ((Int × Int) ⊕ ((Int))) := fun (z2u3, z2u4) =>
  bnd (r14Few_r8 v z2u4) fun y46u13 =>
  ifb y46u13 (bnd (at? v.measures z2u4) fun x55 =>
  grd (inI (z2u3 + (x55.notes.length : Int))) (r14Few_j9 z2u4 (z2u3 + (x55.notes.length : Int))))
  (some (.inr z2u3))
noncomputable def r14Few_r10 (v : View) (y3u3 : Int) : Option Bool :=
  (ifb (decide ((v.measures.length : Int) ≤ 60)) (some (decide (y3u3 ≤ 80))) (some false))
noncomputable def r14Few_j1 (v : View) (y3u3 : Int) : Option Bool :=
  bnd (r14Few_r10 v y3u3) fun y63u2 =>
  some y63u2
noncomputable def r14Few (v : View) : Option Bool :=
  bnd (loopO (r14Few_s7 v) (0, 0)) fun q62u3 =>
  r14Few_j1 v q62u3
noncomputable def r18in_r1 (n : Int) (lo : Int) (hi : Int) : Option Bool :=
  (ifb (decide (lo ≤ n)) (some (decide (n ≤ hi))) (some false))
noncomputable def r18in (n : Int) (lo : Int) (hi : Int) : Option Bool :=
  bnd (r18in_r1 n lo hi) fun y2u6 =>
  some y2u6
noncomputable def r18Valid_r30 (x248 : Measure) (z23u6 : Int) : Option Bool :=
  (bnd (at? x248.notes z23u6) fun x329 =>
  bnd (r18in x329.voice 0 9) fun x331 =>
  ifb (!x331) (some true) (bnd (r18in x329.ossia 0 20) fun x333 =>
  ifb (!x333) (some true) (bnd (r06Duration x329.start) fun x335 =>
  ifb (!x335) (some true) (bnd (r02Valid x329.pitch) fun x337 =>
  some (!x337)))))
noncomputable def r18Valid_j29 (z23u6 : Int) : Option ((Int) ⊕ ((Bool) ⊕ (Unit))) :=
  grd (inI (z23u6 + 1)) (some (.inl (z23u6 + 1)))
noncomputable def r18Valid_s28 (x248 : Measure) : Int → Option ((Int) ⊕ ((Bool) ⊕ (Unit))) := fun (z23u6 : Int) =>
  ifb (decide (z23u6 < (x248.notes.length : Int))) (bnd (r18Valid_r30 x248 z23u6) fun y339u69 =>
  ifb y339u69 (some (.inr (.inl false)))
  (r18Valid_j29 z23u6))
  (some (.inr (.inr ())))
noncomputable def r18Valid_j22 (z2u4 : Int) (y246u3 : Int) : Option ((Int × Int) ⊕ ((Bool) ⊕ (Unit))) :=
  grd (inI (z2u4 + 1)) (some (.inl (y246u3, (z2u4 + 1))))
noncomputable def r18Valid_s21 (v : View) : (Int × Int) → Option ((Int × Int) ⊕ ((Bool) ⊕ (Unit))) := fun (z2u3, z2u4) =>
  ifb (decide (z2u4 < (v.measures.length : Int))) (bnd (at? v.measures z2u4) fun x248 =>
  grd (inI (z2u3 + (x248.notes.length : Int))) (ifb (decide (20000 < (z2u3 + (x248.notes.length : Int)))) (some (.inr (.inl false)))
  (bnd (loopO (r18Valid_s28 x248) 0) fun o318 =>
  match o318 with
  | .inl q356u0 => some (.inr (.inl q356u0))
  | .inr () => r18Valid_j22 z2u4 (z2u3 + (x248.notes.length : Int)))))
  (some (.inr (.inr ())))
noncomputable def r18Valid_j1 : Option Bool :=
  some true
noncomputable def r18Valid (v : View) : Option Bool :=
  ifb (decide (4000 < (v.measures.length : Int))) (some false)
  (bnd (loopO (r18Valid_s21 v) (0, 0)) fun o237 =>
  match o237 with
  | .inl q361u0 => some q361u0
  | .inr () => r18Valid_j1)
noncomputable def r18has_j21 (z17u6 : Int) : Option ((Int) ⊕ ((Bool) ⊕ (Unit))) :=
  grd (inI (z17u6 + 1)) (some (.inl (z17u6 + 1)))
noncomputable def r18has_s20 (v : View) (n : Int) (z2u5 : Int) : Int → Option ((Int) ⊕ ((Bool) ⊕ (Unit))) := fun (z17u6 : Int) =>
  bnd (at? v.measures z2u5) fun x188 =>
  ifb (decide (z17u6 < (x188.notes.length : Int))) (bnd (at? v.measures z2u5) fun x194 =>
  bnd (at? x194.notes z17u6) fun x196 =>
  ifb (decide (x196.voice = n)) (some (.inr (.inl true)))
  (r18has_j21 z17u6))
  (some (.inr (.inr ())))
noncomputable def r18has_j16 (z2u5 : Int) : Option ((Int) ⊕ ((Bool) ⊕ (Unit))) :=
  grd (inI (z2u5 + 1)) (some (.inl (z2u5 + 1)))
noncomputable def r18has_s15 (v : View) (n : Int) : Int → Option ((Int) ⊕ ((Bool) ⊕ (Unit))) := fun (z2u5 : Int) =>
  ifb (decide (z2u5 < (v.measures.length : Int))) (bnd (loopO (r18has_s20 v n z2u5) 0) fun o181 =>
  match o181 with
  | .inl q206u0 => some (.inr (.inl q206u0))
  | .inr () => r18has_j16 z2u5)
  (some (.inr (.inr ())))
noncomputable def r18has_j1 : Option Bool :=
  some false
noncomputable def r18has (v : View) (n : Int) : Option Bool :=
  bnd (loopO (r18has_s15 v n) 0) fun o136 =>
  match o136 with
  | .inl q211u0 => some q211u0
  | .inr () => r18has_j1
noncomputable def r18voices_j6 (z2u4 : Int) (y44u3 : (List Int)) : Option (((List Int) × Int) ⊕ (((List Int)))) :=
  grd (inI (z2u4 + 1)) (some (.inl (y44u3, (z2u4 + 1))))
noncomputable def r18voices_s5 (v : View) : ((List Int) × Int) → Option (((List Int) × Int) ⊕ (((List Int)))) := fun (z2u3, z2u4) =>
  ifb (decide (z2u4 ≤ 9)) (bnd (r18has v z2u4) fun x46 =>
  ifb x46 (grd (((z2u3 ++ [z2u4]) : List Int).length * 8 ≤ 140737488355328) (r18voices_j6 z2u4 (z2u3 ++ [z2u4])))
  (r18voices_j6 z2u4 z2u3))
  (some (.inr z2u3))
noncomputable def r18voices_j1 (y3u3 : (List Int)) : Option (List Int) :=
  some y3u3
noncomputable def r18voices (v : View) : Option (List Int) :=
  bnd (loopO (r18voices_s5 v) ([], 1)) fun q56u3 =>
  r18voices_j1 q56u3
noncomputable def r18Voices (v : View) : Option ((List Int) × Int) :=
  bnd (r18Valid v) fun x3 =>
  ifb (!x3) (some ([], 1))
  (bnd (r18voices v) fun x8 =>
  some (x8, 0))
noncomputable def r18SameInts_j6 (z2u5 : Int) : Option ((Int) ⊕ ((Bool) ⊕ (Unit))) :=
  grd (inI (z2u5 + 1)) (some (.inl (z2u5 + 1)))
noncomputable def r18SameInts_s5 (a : (List Int)) (b : (List Int)) : Int → Option ((Int) ⊕ ((Bool) ⊕ (Unit))) := fun (z2u5 : Int) =>
  ifb (decide (z2u5 < (a.length : Int))) (bnd (at? a z2u5) fun x49 =>
  bnd (at? b z2u5) fun x51 =>
  ifb (!decide (x49 = x51)) (some (.inr (.inl false)))
  (r18SameInts_j6 z2u5))
  (some (.inr (.inr ())))
noncomputable def r18SameInts_j1 : Option Bool :=
  some true
noncomputable def r18SameInts (a : (List Int)) (b : (List Int)) : Option Bool :=
  ifb (!decide ((a.length : Int) = (b.length : Int))) (some false)
  (bnd (loopO (r18SameInts_s5 a b) 0) fun o38 =>
  match o38 with
  | .inl q60u0 => some q60u0
  | .inr () => r18SameInts_j1)
noncomputable def r18Assign_r1 (v : View) (n : Int) : Option Bool :=
  (bnd (r18Valid v) fun x3 =>
  ifb (!x3) (some true) (bnd (r18in n 1 40) fun x5 =>
  some (!x5)))
noncomputable def r18Assign_j9 (z3u8 : Int) (y78u7 : (List Int)) : Option (((List Int) × Int) ⊕ (((List Int)))) :=
  grd (inI (z3u8 + 1)) (some (.inl (y78u7, (z3u8 + 1))))
noncomputable def r18Assign_j10 (z3u7 : (List Int)) (z3u8 : Int) (y81u9 : Int) : Option (((List Int) × Int) ⊕ (((List Int)))) :=
  grd (((z3u7 ++ [y81u9]) : List Int).length * 8 ≤ 140737488355328) (r18Assign_j9 z3u8 (z3u7 ++ [y81u9]))
noncomputable def r18Assign_s8 (n : Int) (x15 : (List Int)) : ((List Int) × Int) → Option (((List Int) × Int) ⊕ (((List Int)))) := fun (z3u7, z3u8) =>
  ifb (decide (z3u8 ≤ n)) (ifb (decide (0 < (x15.length : Int))) (grd (inI (z3u8 - 1)) (grd (inI ((z3u8 - 1) * (x15.length : Int))) (grd (n ≠ 0) (grd (inI (Int.tdiv ((z3u8 - 1) * (x15.length : Int)) n)) (bnd (at? x15 (Int.tdiv ((z3u8 - 1) * (x15.length : Int)) n)) fun x89 =>
  r18Assign_j10 z3u7 z3u8 x89)))))
  (r18Assign_j10 z3u7 z3u8 0))
  (some (.inr z3u7))
noncomputable def r18Assign_j2 (y23u7 : (List Int)) : Option ((List Int) × Int) :=
  some (y23u7, 0)
noncomputable def r18Assign (v : View) (n : Int) : Option ((List Int) × Int) :=
  bnd (r18Assign_r1 v n) fun y7u17 =>
  ifb y7u17 (some ([], 1))
  (bnd (r18voices v) fun x15 =>
  ifb (decide (n < (x15.length : Int))) (some ([], 6))
  (bnd (loopO (r18Assign_s8 n x15) ([], 1)) fun q97u7 =>
  r18Assign_j2 q97u7))
noncomputable def r18Desk_r1 (v : View) (n : Int) : Option Bool :=
  (bnd (r18Valid v) fun x3 =>
  ifb (!x3) (some true) (bnd (r18in n 0 9) fun x5 =>
  some (!x5)))
noncomputable def r18Desk_r34 (n : Int) (x201 : Measure) (z27u10 : Int) : Option Bool :=
  (bnd (at? x201.notes z27u10) fun x260 =>
  ifb (decide (x260.voice = 0)) (some true) (some (decide (x260.voice = n))))
noncomputable def r18Desk_j33 (z27u10 : Int) (y258u9 : (List Written)) : Option (((List Written) × Int) ⊕ (((List Written)))) :=
  grd (inI (z27u10 + 1)) (some (.inl (y258u9, (z27u10 + 1))))
noncomputable def r18Desk_s32 (n : Int) (x201 : Measure) : ((List Written) × Int) → Option (((List Written) × Int) ⊕ (((List Written)))) := fun (z27u9, z27u10) =>
  ifb (decide (z27u10 < (x201.notes.length : Int))) (bnd (r18Desk_r34 n x201 z27u10) fun y262u58 =>
  ifb y262u58 (bnd (at? x201.notes z27u10) fun x269 =>
  grd (((z27u9 ++ [x269]) : List Written).length * 80 ≤ 140737488355328) (r18Desk_j33 z27u10 (z27u9 ++ [x269])))
  (r18Desk_j33 z27u10 z27u9))
  (some (.inr z27u9))
noncomputable def r18Desk_j25 (z3u7 : Int) (y199u6c_1 : (List Measure)) : Option (((List Measure) × Int) ⊕ (((List Measure)))) :=
  grd (inI (z3u7 + 1)) (some (.inl (y199u6c_1, (z3u7 + 1))))
noncomputable def r18Desk_j26 (z3u6c_1 : (List Measure)) (z3u7 : Int) (x201 : Measure) (y205u9 : (List Written)) : Option (((List Measure) × Int) ⊕ (((List Measure)))) :=
  grd (((z3u6c_1 ++ [(⟨x201.bar, x201.key, x201.length, y205u9⟩ : Measure)]) : List Measure).length * 56 ≤ 140737488355328) (r18Desk_j25 z3u7 (z3u6c_1 ++ [(⟨x201.bar, x201.key, x201.length, y205u9⟩ : Measure)]))
noncomputable def r18Desk_s24 (v : View) (n : Int) : ((List Measure) × Int) → Option (((List Measure) × Int) ⊕ (((List Measure)))) := fun (z3u6c_1, z3u7) =>
  ifb (decide (z3u7 < (v.measures.length : Int))) (bnd (at? v.measures z3u7) fun x201 =>
  bnd (loopO (r18Desk_s32 n x201) ([], 0)) fun q276u9 =>
  r18Desk_j26 z3u6c_1 z3u7 x201 q276u9)
  (some (.inr z3u6c_1))
noncomputable def r18Desk_j2 (v : View) (y16u6c_1 : (List Measure)) : Option (View × Int) :=
  some ((⟨v.part, y16u6c_1⟩ : View), 0)
noncomputable def r18Desk (v : View) (n : Int) : Option (View × Int) :=
  bnd (r18Desk_r1 v n) fun y7u18 =>
  ifb y7u18 (some ((⟨0, []⟩ : View), 1))
  (bnd (loopO (r18Desk_s24 v n) ([], 0)) fun q283u6c_1 =>
  r18Desk_j2 v q283u6c_1)
noncomputable def r18Played_j21 (z17u6 : Int) : Option ((Int) ⊕ ((Int) ⊕ (Unit))) :=
  grd (inI (z17u6 + 1)) (some (.inl (z17u6 + 1)))
noncomputable def r18Played_s20 (l : (List Written)) (c : (List Int)) (z2u5 : Int) : Int → Option ((Int) ⊕ ((Int) ⊕ (Unit))) := fun (z17u6 : Int) =>
  ifb (decide (z17u6 < (l.length : Int))) (bnd (at? l z17u6) fun x192 =>
  bnd (at? c z2u5) fun x194 =>
  ifb (decide (x192.ossia = x194)) (bnd (at? c z2u5) fun x198 =>
  some (.inr (.inl x198)))
  (r18Played_j21 z17u6))
  (some (.inr (.inr ())))
noncomputable def r18Played_j16 (z2u5 : Int) : Option ((Int) ⊕ ((Int) ⊕ (Unit))) :=
  grd (inI (z2u5 + 1)) (some (.inl (z2u5 + 1)))
noncomputable def r18Played_s15 (l : (List Written)) (c : (List Int)) : Int → Option ((Int) ⊕ ((Int) ⊕ (Unit))) := fun (z2u5 : Int) =>
  ifb (decide (z2u5 < (c.length : Int))) (bnd (loopO (r18Played_s20 l c z2u5) 0) fun o181 =>
  match o181 with
  | .inl q206u0 => some (.inr (.inl q206u0))
  | .inr () => r18Played_j16 z2u5)
  (some (.inr (.inr ())))
noncomputable def r18Played_j1 : Option Int :=
  some 0
noncomputable def r18Played (l : (List Written)) (c : (List Int)) : Option Int :=
  bnd (loopO (r18Played_s15 l c) 0) fun o136 =>
  match o136 with
  | .inl q211u0 => some q211u0
  | .inr () => r18Played_j1
noncomputable def r18Chosen_r9 (c : (List Int)) (z2u3 : Int) : Option Bool :=
  (bnd (at? c z2u3) fun x65 =>
  bnd (r18in x65 1 20) fun x67 =>
  ifb (!x67) (some true) (ifb (decide (0 < z2u3)) (grd (inI (z2u3 - 1)) (bnd (at? c (z2u3 - 1)) fun x70 =>
  some (decide (x65 ≤ x70)))) (some false)))
noncomputable def r18Chosen_j8 (z2u3 : Int) : Option ((Int) ⊕ ((Bool) ⊕ (Unit))) :=
  grd (inI (z2u3 + 1)) (some (.inl (z2u3 + 1)))
noncomputable def r18Chosen_s7 (c : (List Int)) : Int → Option ((Int) ⊕ ((Bool) ⊕ (Unit))) := fun (z2u3 : Int) =>
  ifb (decide (z2u3 < (c.length : Int))) (bnd (r18Chosen_r9 c z2u3) fun y72u31 =>
  ifb y72u31 (some (.inr (.inl false)))
  (r18Chosen_j8 z2u3))
  (some (.inr (.inr ())))
noncomputable def r18Chosen_j1 : Option Bool :=
  some true
noncomputable def r18Chosen (c : (List Int)) : Option Bool :=
  bnd (loopO (r18Chosen_s7 c) 0) fun o54 =>
  match o54 with
  | .inl q86u0 => some q86u0
  | .inr () => r18Chosen_j1
noncomputable def r18Ossia_r1 (v : View) (c : (List Int)) : Option Bool :=
  (bnd (r18Valid v) fun x3 =>
  ifb (!x3) (some true) (bnd (r18Chosen c) fun x5 =>
  some (!x5)))
noncomputable def r18Ossia_j25 (z21u11 : Int) (y227u10 : (List Written)) : Option (((List Written) × Int) ⊕ (((List Written)))) :=
  grd (inI (z21u11 + 1)) (some (.inl (y227u10, (z21u11 + 1))))
noncomputable def r18Ossia_s24 (x177 : Measure) (x180 : Int) : ((List Written) × Int) → Option (((List Written) × Int) ⊕ (((List Written)))) := fun (z21u10, z21u11) =>
  ifb (decide (z21u11 < (x177.notes.length : Int))) (bnd (at? x177.notes z21u11) fun x229 =>
  ifb (decide (x229.ossia = x180)) (bnd (at? x177.notes z21u11) fun x233 =>
  grd (((z21u10 ++ [x233]) : List Written).length * 80 ≤ 140737488355328) (r18Ossia_j25 z21u11 (z21u10 ++ [x233])))
  (r18Ossia_j25 z21u11 z21u10))
  (some (.inr z21u10))
noncomputable def r18Ossia_j19 (z3u7 : Int) (y175u6c_1 : (List Measure)) : Option (((List Measure) × Int) ⊕ (((List Measure)))) :=
  grd (inI (z3u7 + 1)) (some (.inl (y175u6c_1, (z3u7 + 1))))
noncomputable def r18Ossia_j20 (z3u6c_1 : (List Measure)) (z3u7 : Int) (x177 : Measure) (y184u10 : (List Written)) : Option (((List Measure) × Int) ⊕ (((List Measure)))) :=
  grd (((z3u6c_1 ++ [(⟨x177.bar, x177.key, x177.length, y184u10⟩ : Measure)]) : List Measure).length * 56 ≤ 140737488355328) (r18Ossia_j19 z3u7 (z3u6c_1 ++ [(⟨x177.bar, x177.key, x177.length, y184u10⟩ : Measure)]))
noncomputable def r18Ossia_s18 (v : View) (c : (List Int)) : ((List Measure) × Int) → Option (((List Measure) × Int) ⊕ (((List Measure)))) := fun (z3u6c_1, z3u7) =>
  ifb (decide (z3u7 < (v.measures.length : Int))) (bnd (at? v.measures z3u7) fun x177 =>
  bnd (r18Played x177.notes c) fun x180 =>
  bnd (loopO (r18Ossia_s24 x177 x180) ([], 0)) fun q240u10 =>
  r18Ossia_j20 z3u6c_1 z3u7 x177 q240u10)
  (some (.inr z3u6c_1))
noncomputable def r18Ossia_j2 (v : View) (y16u6c_1 : (List Measure)) : Option (View × Int) :=
  some ((⟨v.part, y16u6c_1⟩ : View), 0)
noncomputable def r18Ossia (v : View) (c : (List Int)) : Option (View × Int) :=
  bnd (r18Ossia_r1 v c) fun y7u19 =>
  ifb y7u19 (some ((⟨0, []⟩ : View), 1))
  (bnd (loopO (r18Ossia_s18 v c) ([], 0)) fun q247u6c_1 =>
  r18Ossia_j2 v q247u6c_1)
noncomputable def r18same_r1 (a : View) (b : View) : Option Bool :=
  (ifb (!decide (a.part = b.part)) (some true) (some (!decide ((a.measures.length : Int) = (b.measures.length : Int)))))
noncomputable def r18same_r10 (x72 : Measure) (x75 : Measure) : Option Bool :=
  (ifb (!decide (x72.bar = x75.bar)) (some true) (ifb (!decide (x72.key = x75.key)) (some true) (some (!decide (x72.length = x75.length)))))
noncomputable def r18same_j9 (z3u5 : Int) : Option ((Int) ⊕ ((Bool) ⊕ (Unit))) :=
  grd (inI (z3u5 + 1)) (some (.inl (z3u5 + 1)))
noncomputable def r18same_s8 (a : View) (b : View) : Int → Option ((Int) ⊕ ((Bool) ⊕ (Unit))) := fun (z3u5 : Int) =>
  ifb (decide (z3u5 < (a.measures.length : Int))) (bnd (at? a.measures z3u5) fun x72 =>
  bnd (at? b.measures z3u5) fun x75 =>
  bnd (r18same_r10 x72 x75) fun y78u57 =>
  ifb y78u57 (some (.inr (.inl false)))
  (r18same_j9 z3u5))
  (some (.inr (.inr ())))
noncomputable def r18same_j2 : Option Bool :=
  some true
noncomputable def r18same (a : View) (b : View) : Option Bool :=
  bnd (r18same_r1 a b) fun y3u21 =>
  ifb y3u21 (some false)
  (bnd (loopO (r18same_s8 a b) 0) fun o61 =>
  match o61 with
  | .inl q92u0 => some q92u0
  | .inr () => r18same_j2)
noncomputable def r18put_r50 (z2u0 : (List Written)) (x345 : Written) (z42u9 : Int) : Option Bool :=
  (bnd (at? z2u0 z42u9) fun x412 =>
  ifb (decide (x412.id = x345.id)) (some (!decide (x412 = x345))) (some false))
noncomputable def r18put_r51 (z2u0 : (List Written)) (x345 : Written) (z42u8 : Bool) (z42u9 : Int) : Option Bool :=
  (ifb z42u8 (some true) (bnd (at? z2u0 z42u9) fun x424 =>
  some (decide (x424 = x345))))
noncomputable def r18put_j49 (z42u9 : Int) (y409u8 : Bool) : Option ((Bool × Int) ⊕ (((List Written) × Bool) ⊕ (Bool))) :=
  grd (inI (z42u9 + 1)) (some (.inl (y409u8, (z42u9 + 1))))
noncomputable def r18put_s48 (z2u0 : (List Written)) (x345 : Written) : (Bool × Int) → Option ((Bool × Int) ⊕ (((List Written) × Bool) ⊕ (Bool))) := fun (z42u8, z42u9) =>
  ifb (decide (z42u9 < (z2u0.length : Int))) (bnd (r18put_r50 z2u0 x345 z42u9) fun y414u43 =>
  ifb y414u43 (some (.inr (.inl ([], false))))
  (bnd (r18put_r51 z2u0 x345 z42u8 z42u9) fun y426u8 =>
  r18put_j49 z42u9 y426u8))
  (some (.inr (.inr z42u8)))
noncomputable def r18put_r57 (z2u0 : (List Written)) (x345 : Written) (z53u10 : Int) : Option Bool :=
  (ifb (decide (0 < z53u10)) (grd (inI (z53u10 - 1)) (bnd (at? z2u0 (z53u10 - 1)) fun x482 =>
  bnd (r14Before x345 x482) fun x484 =>
  some x484)) (some false))
noncomputable def r18put_s56 (z2u0 : (List Written)) (x345 : Written) : Int → Option ((Int) ⊕ ((Int))) := fun (z53u10 : Int) =>
  bnd (r18put_r57 z2u0 x345 z53u10) fun y486u66 =>
  ifb y486u66 (grd (inI (z53u10 - 1)) (some (.inl (z53u10 - 1))))
  (some (.inr z53u10))
noncomputable def r18put_j40 (z2u6 : Int) (y343u0 : (List Written)) : Option (((List Written) × Int) ⊕ (((List Written) × Bool) ⊕ ((List Written)))) :=
  grd (inI (z2u6 + 1)) (some (.inl (y343u0, (z2u6 + 1))))
noncomputable def r18put_j52 (z2u0 : (List Written)) (z2u6 : Int) (x345 : Written) (y441u10 : Int) : Option (((List Written) × Int) ⊕ (((List Written) × Bool) ⊕ ((List Written)))) :=
  grd (0 ≤ y441u10 ∧ y441u10 ≤ (z2u0.length : Int)) (grd (((z2u0.take y441u10.toNat) : List Written).length * 80 ≤ 140737488355328) (grd ((((z2u0.take y441u10.toNat) ++ [x345]) : List Written).length * 80 ≤ 140737488355328) (grd (0 ≤ y441u10 ∧ y441u10 ≤ (z2u0.length : Int)) (grd (((((z2u0.take y441u10.toNat) ++ [x345]) ++ (z2u0.drop y441u10.toNat)) : List Written).length * 80 ≤ 140737488355328) (r18put_j40 z2u6 (((z2u0.take y441u10.toNat) ++ [x345]) ++ (z2u0.drop y441u10.toNat)))))))
noncomputable def r18put_j41 (z2u0 : (List Written)) (z2u6 : Int) (x345 : Written) (y349u8 : Bool) : Option (((List Written) × Int) ⊕ (((List Written) × Bool) ⊕ ((List Written)))) :=
  ifb y349u8 (r18put_j40 z2u6 z2u0)
  (bnd (loopO (r18put_s56 z2u0 x345) (z2u0.length : Int)) fun q496u10 =>
  r18put_j52 z2u0 z2u6 x345 q496u10)
noncomputable def r18put_s39 (m : (List Written)) : ((List Written) × Int) → Option (((List Written) × Int) ⊕ (((List Written) × Bool) ⊕ ((List Written)))) := fun (z2u0, z2u6) =>
  ifb (decide (z2u6 < (m.length : Int))) (bnd (at? m z2u6) fun x345 =>
  bnd (loopO (r18put_s48 z2u0 x345) (false, 0)) fun o400 =>
  match o400 with
  | .inl (q435u0, q435u1) => some (.inr (.inl (q435u0, q435u1)))
  | .inr q436u8 => r18put_j41 z2u0 z2u6 x345 q436u8)
  (some (.inr (.inr z2u0)))
noncomputable def r18put_j1 (y2u0 : (List Written)) : Option ((List Written) × Bool) :=
  some (y2u0, true)
noncomputable def r18put (l : (List Written)) (m : (List Written)) : Option ((List Written) × Bool) :=
  bnd (loopO (r18put_s39 m) (l, 0)) fun o334 =>
  match o334 with
  | .inl (q509u0, q509u1) => some (q509u0, q509u1)
  | .inr q510u0 => r18put_j1 q510u0
noncomputable def r18Join_r1 (l : (List View)) : Option Bool :=
  (ifb (decide ((l.length : Int) < 1)) (some true) (some (decide (100 < (l.length : Int)))))
noncomputable def r18Join_j7 (z3u4 : Int) : Option ((Int) ⊕ ((View × Int) ⊕ (Unit))) :=
  grd (inI (z3u4 + 1)) (some (.inl (z3u4 + 1)))
noncomputable def r18Join_s6 (l : (List View)) : Int → Option ((Int) ⊕ ((View × Int) ⊕ (Unit))) := fun (z3u4 : Int) =>
  ifb (decide (z3u4 < (l.length : Int))) (bnd (at? l z3u4) fun x54 =>
  bnd (r18Valid x54) fun x56 =>
  ifb (!x56) (some (.inr (.inl ((⟨0, []⟩ : View), 1))))
  (r18Join_j7 z3u4))
  (some (.inr (.inr ())))
noncomputable def r18Join_j13 (z9u5 : Int) : Option ((Int) ⊕ ((View × Int) ⊕ (Unit))) :=
  grd (inI (z9u5 + 1)) (some (.inl (z9u5 + 1)))
noncomputable def r18Join_s12 (l : (List View)) : Int → Option ((Int) ⊕ ((View × Int) ⊕ (Unit))) := fun (z9u5 : Int) =>
  ifb (decide (z9u5 < (l.length : Int))) (bnd (at? l 0) fun x112 =>
  bnd (at? l z9u5) fun x114 =>
  bnd (r18same x112 x114) fun x116 =>
  ifb (!x116) (some (.inr (.inl ((⟨0, []⟩ : View), 6))))
  (r18Join_j13 z9u5))
  (some (.inr (.inr ())))
noncomputable def r18Join_j37 (z33u11 : Int) (y391u10 : (List Written)) : Option (((List Written) × Int) ⊕ ((View × Int) ⊕ ((List Written)))) :=
  grd (inI (z33u11 + 1)) (some (.inl (y391u10, (z33u11 + 1))))
noncomputable def r18Join_s36 (l : (List View)) (z15u8 : Int) : ((List Written) × Int) → Option (((List Written) × Int) ⊕ ((View × Int) ⊕ ((List Written)))) := fun (z33u10, z33u11) =>
  ifb (decide (z33u11 < (l.length : Int))) (bnd (at? l z33u11) fun x393 =>
  bnd (at? x393.measures z15u8) fun x395 =>
  bnd (r18put z33u10 x395.notes) fun (x397, x398) =>
  ifb (!x398) (some (.inr (.inl ((⟨0, []⟩ : View), 5))))
  (r18Join_j37 z33u11 x397))
  (some (.inr (.inr z33u10)))
noncomputable def r18Join_j31 (z15u8 : Int) (y330u6c_1 : (List Measure)) (y330u7 : Int) : Option (((List Measure) × Int × Int) ⊕ ((View × Int) ⊕ ((List Measure) × Int))) :=
  grd (inI (z15u8 + 1)) (some (.inl (y330u6c_1, y330u7, (z15u8 + 1))))
noncomputable def r18Join_j32 (z15u6c_1 : (List Measure)) (z15u7 : Int) (z15u8 : Int) (x334 : Measure) (y338u10 : (List Written)) : Option (((List Measure) × Int × Int) ⊕ ((View × Int) ⊕ ((List Measure) × Int))) :=
  grd (inI (z15u7 + (y338u10.length : Int))) (grd (((z15u6c_1 ++ [({ x334 with notes := y338u10 })]) : List Measure).length * 56 ≤ 140737488355328) (r18Join_j31 z15u8 (z15u6c_1 ++ [({ x334 with notes := y338u10 })]) (z15u7 + (y338u10.length : Int))))
noncomputable def r18Join_s30 (l : (List View)) : ((List Measure) × Int × Int) → Option (((List Measure) × Int × Int) ⊕ ((View × Int) ⊕ ((List Measure) × Int))) := fun (z15u6c_1, z15u7, z15u8) =>
  bnd (at? l 0) fun x326 =>
  ifb (decide (z15u8 < (x326.measures.length : Int))) (bnd (at? l 0) fun x332 =>
  bnd (at? x332.measures z15u8) fun x334 =>
  bnd (loopO (r18Join_s36 l z15u8) ([], 0)) fun o382 =>
  match o382 with
  | .inl (q411u0, q411u1) => some (.inr (.inl (q411u0, q411u1)))
  | .inr q412u10 => r18Join_j32 z15u6c_1 z15u7 z15u8 x334 q412u10)
  (some (.inr (.inr (z15u6c_1, z15u7))))
noncomputable def r18Join_j14 (x127 : View) (y131u6c_1 : (List Measure)) (y131u7 : Int) : Option (View × Int) :=
  ifb (decide (20000 < y131u7)) (some ((⟨0, []⟩ : View), 2))
  (some ((⟨x127.part, y131u6c_1⟩ : View), 0))
noncomputable def r18Join_j8 (l : (List View)) : Option (View × Int) :=
  bnd (at? l 0) fun x127 =>
  bnd (loopO (r18Join_s30 l) ([], 0, 0)) fun o319 =>
  match o319 with
  | .inl (q421u0, q421u1) => some (q421u0, q421u1)
  | .inr (q422u6c_1, q422u7) => r18Join_j14 x127 q422u6c_1 q422u7
noncomputable def r18Join_j2 (l : (List View)) : Option (View × Int) :=
  bnd (loopO (r18Join_s12 l) 0) fun o101 =>
  match o101 with
  | .inl (q125u0, q125u1) => some (q125u0, q125u1)
  | .inr () => r18Join_j8 l
noncomputable def r18Join (l : (List View)) : Option (View × Int) :=
  bnd (r18Join_r1 l) fun y3u21 =>
  ifb y3u21 (some ((⟨0, []⟩ : View), 1))
  (bnd (loopO (r18Join_s6 l) 0) fun o43 =>
  match o43 with
  | .inl (q65u0, q65u1) => some (q65u0, q65u1)
  | .inr () => r18Join_j2 l)
end Go.Proofs.YtjfkfkjkbgiciaaDoor
namespace Go.Proofs.YtjfkfkjkbgiciaaDoor
open Go Go.Eva Enc
set_option maxRecDepth 4000
attribute [local instance] rndX
attribute [local congr] AWp.congrS
attribute [local simp] evalSeq opRes guardPc evalOp evT Eva.get startT strip putT Eva.after constT typed obAll holds dstOk R.ok R.bad ofD binD unD pickT subL subP Op.operands Call.operands toD toD1 argsD argsD1 callD callT typedAll cfind quietT quietT1 spec0 spec1 spec2 spec3 enc_int enc_bool enc_str enc_fn enc_list dec_int dec_bool dec_str dec_fn dec_list size_int size_str map_dec_enc map_dec_comp cellsT D.cells T.oneT D.one mkT dataT zeroT unD1 setAt loadAs loadEl storeAs fieldP fieldV sizeE intOfT indexP appendT lenT sliceT elemSize arith lfsOk lfOk isAggD mkD fillT placeS TD.agg env restr List.map keyIdx mapTy lookT mapPutT mapDelT mapOf indexS convT evalPure range1 range2 range3 range4 range5 range6 range7 range8 enc_intk size_intk dec_intk eta_intk keysInt_nil keyIdx_E keysInt_E isE_iff put_E del_E get_E getok_E mkeys_E mkeys_E' mkeys_enc specO0 specO1 specO2 specO3 specO4 opD skips gone unbox cloT subO clearT makeT enc_bx dec_bx size_bx selS cloIs List.contains_cons List.contains_nil elAt_zero enc_Rat dec_Rat size_Rat eta_Rat beqL_Rat beqR_Rat enc_Pitch dec_Pitch size_Pitch eta_Pitch beqL_Pitch beqR_Pitch enc_Written dec_Written size_Written eta_Written beqL_Written beqR_Written enc_Measure dec_Measure size_Measure eta_Measure enc_View dec_View size_View eta_View enc_Fraction dec_Fraction size_Fraction eta_Fraction beqL_Fraction beqR_Fraction dat0 len_natTab eqT4 eqT34 eqT36 eqT38 eqT114 te1 te2 te3 te4 te5 te6 te7 te8 te9 te10 te11 te12 te13 te14 te15 te16 te17 te18 te19 te21 te22 te23 te24 te25 te26 te27 te28 te30 te31 te32 te33 te34 te35 te36 te37 te38 te39 te40 te41 te42 te43 te45 te46 te47 te48 te49 te50 te51 te52 te53 te55 te56 te57 te58 te59 te60 te61 te62 te63 te64 te65 te66 te67 te68 te69 te70 te71 te72 te73 te74 te75 te76 te77 te79 te80 te81 te82 te83 te84 te85 te86 te87 te88 te89 te90 te91 te92 te93 te94 te95 te96 te97 te98 te99 te100 te101 te102 te104 te105 te106 te108 te109 te110 te111 te112 te113 te114 te115 te116 te117 te118 te119 te120 te121 te122 te123 te124 te125 te126 te127 te128 te129 te130 te131 te133 te134 te135 te136 te137 te138 te139 te140 te141 te142 te143 te144 te145 te146 te147 te148 te149 te150
section
variable [Onn]
noncomputable def sp47 : Eva.Spec := specO2 fun (a : Measure) (b : Measure) => (r14same a b).map fun r => enc r
theorem ok47 : SpecOk Tryd.prog 47 sp47 := by
 have hV : VOk Tryd.prog (env []) := env_ok trivial
 refine SpecOk.ofO2 (Enters.of Tryd.func47 (by decide)) fun a b rr hr => ?_
 obtain ⟨r, hg, rfl⟩ := mpj hr; clear hr
 refine PureCon.ofN hV Tryd.func47 rfl Tryd.ntmps47 fun R hR w0 I0 Q hQ => ?_
 unfold r14same at hg
 refine AWp.rS hV none [2, 3] fun K k1 => ?_
 simp; repeat refine ai ?_
 refine kc [(2, .ptr 0 0), (3, .ptr 1 0)] [.w 42 a, .w 42 b] (k1 _ ?_)
 obtain ⟨y2u4, hx3, hg⟩ := bnd_some hg
 unfold r14same_r1 at hx3
 refine AWp.seqJ (fun s' => Sub s' ⟨[se 4 y2u4], []⟩) (fun _ k4 => ?_) ?_
 ·rcases ifb_o hx3 with ⟨c5, hx3⟩ | ⟨c5, hx3⟩
  ·have c5g := eq_true (of_decide_eq_true c5)
   rcases ifb_o hx3 with ⟨c6, hx3⟩ | ⟨c6, hx3⟩
   ·have c6g := eq_true (of_decide_eq_true c6)
    refine AWp.regF hV (some []) [4] fun K k7 => ?_
    simp [c5, c5g, c6, c6g]; repeat refine ai ?_
    cases hx3; exact k7 _ (k4 _ (Sub.rm []))
   ·have c6g := c6; try simp at c6g
    refine AWp.regF hV (some [18, 19, 20, 21, 22]) [4] fun K k8 => ?_
    simp [c5, c5g, c6, c6g]; repeat refine ai ?_
    cases hx3; exact k8 _ (k4 _ (Sub.rm []))
  ·have c5g := c5; try simp at c5g
   refine AWp.regF hV (some [11, 12, 13, 14, 15, 18, 19, 20, 21, 22]) [4] fun K k9 => ?_
   simp [c5, c5g]; repeat refine ai ?_
   cases hx3; exact k9 _ (k4 _ (Sub.rm []))
 ·intro s' hs
  refine AWp.sub hs ?_
  clear hs s'
  refine AWp.ret ?_
  cases hg; exact hQ _ _ (.inl rfl) rt
noncomputable def sp14 : Eva.Spec := specO2 fun (a : (List Written)) (b : (List Written)) => (r14SameWritten a b).map fun r => enc r
theorem ok14 : SpecOk Tryd.prog 14 sp14 := by
 have hV : VOk Tryd.prog (env []) := env_ok trivial
 refine SpecOk.ofO2 (Enters.of Tryd.func14 (by decide)) fun a b rr hr => ?_
 obtain ⟨r, hg, rfl⟩ := mpj hr; clear hr
 refine PureCon.ofN hV Tryd.func14 rfl Tryd.ntmps14 fun R hR w0 I0 Q hQ => ?_
 unfold r14SameWritten at hg
 refine AWp.rS hV none [0, 1] fun K k1 => ?_
 simp; repeat refine ai ?_
 refine kc [se 0 a, se 1 b] [] (k1 _ ?_)
 refine AWp.seqG fun _ k2 => ?_
 refine AWp.rS hV none [0, 1, 10] fun K k3 => ?_
 simp; repeat refine ai ?_
 refine kc [se 0 a, se 1 b, se 10 (!decide ((a.length : Int) = (b.length : Int)))] [] (k3 _ ?_)
 refine AWp.cnd hg rfl ?_ ?_ <;> (clear hg; intro h4 hg)
 ·refine AWp.rS hV none [4] fun K k5 => ?_
  simp; repeat refine ai ?_
  refine kc [se 4 false] [] (k5 _ ?_)
  refine AWp.ret ?_
  cases hg; exact hQ _ _ (.inl rfl) rt
 ·refine AWp.skip ?_
  refine k2 _ ?_
  refine AWp.seqJ (fun s' => r14SameWritten_j1 = some r ∧ Sub s' ⟨[], []⟩) (fun _ k7 => ?_) ?_
  ·refine AWp.rS hV none [0, 1, 5] fun K k8 => ?_
   simp; repeat refine ai ?_
   refine kc [se 0 a, se 1 b, se 5 (0 : Int)] [] (k8 _ ?_)
   refine AWp.block ?_
   obtain ⟨o38, hl39, hq40⟩ := bnd_some hg; clear hg
   refine AWp.loopO (fun (z2u5 : Int) => ⟨[se 0 a, se 1 b, se 5 z2u5], []⟩) (r14SameWritten_s5 a b) 0 hl39 ?_ fun z2u5 w43 _ hg hx42 k9 => ?_
   ·exact Sub.rm []
   unfold r14SameWritten_s5 at hg; try dsimp only at hg
   show AWp _ _ _ _ _ ⟨[se 0 a, se 1 b, se 5 z2u5], []⟩ _
   refine AWp.seqG fun _ k44 => ?_
   refine AWp.rS hV none [0, 1, 5, 14] fun K k45 => ?_
   simp; repeat refine ai ?_
   refine kc [se 0 a, se 1 b, se 5 z2u5, se 14 (decide (z2u5 < (a.length : Int)))] [] (k45 _ ?_)
   refine AWp.cnd hg rfl ?_ ?_ <;> (clear hg; intro h46 hg)
   ·refine AWp.skip ?_
    refine k44 _ ?_
    refine AWp.seqJ (fun s' => r14SameWritten_j6 z2u5 = some w43 ∧ Sub s' ⟨[se 0 a, se 1 b, se 5 z2u5], []⟩) (fun _ k48 => ?_) ?_
    ·refine AWp.block ?_
     obtain ⟨x49, h50, hg⟩ := bnd_some hg
     obtain ⟨h50a, h50b, h50f⟩ := at_e h50; have h50g := h50f; try simp at h50g
     obtain ⟨x51, h52, hg⟩ := bnd_some hg
     obtain ⟨h52a, h52b, h52f⟩ := at_e h52; have h52g := h52f; try simp at h52g
     refine AWp.rDF hV mixed none 8 [] [0, 1, 5, 25] (by decide) fun K k53 => ?_
     simp [h50f, h50g, h52f, h52g]; repeat refine ai ?_
     refine kd [se 0 a, se 1 b, se 5 z2u5, se 25 (!decide (x49 = x51))] [] (by first | rfl | (simp [h50f, h50g, h52f, h52g] <;> grind)) (k53 _ ?_)
     refine AWp.cnd hg rfl ?_ ?_ <;> (clear hg; intro h54 hg)
     ·refine AWp.rS hV none [4] fun K k55 => ?_
      simp; repeat refine ai ?_
      refine kc [se 4 false] [] (k55 _ ?_)
      refine AWp.ret ?_
      cases hx42 _ (oij hg).symm; have hg := hq40; try dsimp only at hg
      cases hg; exact hQ _ _ (.inl rfl) rt
     ·refine AWp.skip ?_
      exact k48 _ ⟨hg, Sub.rm []⟩
    ·rintro s' ⟨hg, hs⟩
     unfold r14SameWritten_j6 at hg
     refine AWp.sub hs ?_
     obtain ⟨g57, hg⟩ := grd_some hg
     unfold inI at g57
     refine AWp.regF hV none [0, 1, 5] fun K k58 => ?_
     simp; repeat refine ai ?_
     refine kc [se 0 a, se 1 b, se 5 ((z2u5 + 1) : Int)] [] (k58 _ ?_)
     exact k9 _ _ (oij hg).symm (Sub.rm [])
   ·refine AWp.exit ?_
    cases hx42 _ (oij hg).symm; have hg := hq40; try dsimp only at hg
    exact k7 _ ⟨hg, Sub.rm []⟩
  ·rintro s' ⟨hg, hs⟩
   unfold r14SameWritten_j1 at hg
   refine AWp.sub hs ?_
   refine AWp.rS hV none [4] fun K k62 => ?_
   simp; repeat refine ai ?_
   refine kc [se 4 true] [] (k62 _ ?_)
   refine AWp.ret ?_
   cases hg; exact hQ _ _ (.inl rfl) rt
noncomputable def sp24 : Eva.Spec := specO2 fun (a : (List Measure)) (b : (List Measure)) => (r14SameMeasures a b).map fun r => enc r
theorem ok24 : SpecOk Tryd.prog 24 sp24 := by
 have hV : VOk Tryd.prog (env [(47, sp47), (14, sp14)]) := env_ok ⟨ok47, ok14, trivial⟩
 refine SpecOk.ofO2 (Enters.of Tryd.func24 (by decide)) fun a b rr hr => ?_
 obtain ⟨r, hg, rfl⟩ := mpj hr; clear hr
 refine PureCon.ofN hV Tryd.func24 rfl Tryd.ntmps24 fun R hR w0 I0 Q hQ => ?_
 unfold r14SameMeasures at hg
 refine AWp.rS hV none [0, 1] fun K k1 => ?_
 simp; repeat refine ai ?_
 refine kc [se 0 a, se 1 b] [] (k1 _ ?_)
 refine AWp.seqG fun _ k2 => ?_
 refine AWp.rS hV none [0, 1, 12] fun K k3 => ?_
 simp; repeat refine ai ?_
 refine kc [se 0 a, se 1 b, se 12 (!decide ((a.length : Int) = (b.length : Int)))] [] (k3 _ ?_)
 refine AWp.cnd hg rfl ?_ ?_ <;> (clear hg; intro h4 hg)
 ·refine AWp.rS hV none [4] fun K k5 => ?_
  simp; repeat refine ai ?_
  refine kc [se 4 false] [] (k5 _ ?_)
  refine AWp.ret ?_
  cases hg; exact hQ _ _ (.inl rfl) rt
 ·refine AWp.skip ?_
  refine k2 _ ?_
  refine AWp.seqJ (fun s' => r14SameMeasures_j1 = some r ∧ Sub s' ⟨[], []⟩) (fun _ k7 => ?_) ?_
  ·refine AWp.rS hV none [0, 1, 5] fun K k8 => ?_
   simp; repeat refine ai ?_
   refine kc [se 0 a, se 1 b, se 5 (0 : Int)] [] (k8 _ ?_)
   refine AWp.block ?_
   obtain ⟨o68, hl69, hq70⟩ := bnd_some hg; clear hg
   refine AWp.loopO (fun (z2u5 : Int) => ⟨[se 0 a, se 1 b, se 5 z2u5], []⟩) (r14SameMeasures_s7 a b) 0 hl69 ?_ fun z2u5 w73 _ hg hx72 k9 => ?_
   ·exact Sub.rm []
   unfold r14SameMeasures_s7 at hg; try dsimp only at hg
   show AWp _ _ _ _ _ ⟨[se 0 a, se 1 b, se 5 z2u5], []⟩ _
   refine AWp.seqG fun _ k74 => ?_
   refine AWp.rS hV none [0, 1, 5, 16] fun K k75 => ?_
   simp; repeat refine ai ?_
   refine kc [se 0 a, se 1 b, se 5 z2u5, se 16 (decide (z2u5 < (a.length : Int)))] [] (k75 _ ?_)
   refine AWp.cnd hg rfl ?_ ?_ <;> (clear hg; intro h76 hg)
   ·refine AWp.skip ?_
    refine k74 _ ?_
    refine AWp.seqJ (fun s' => r14SameMeasures_j8 z2u5 = some w73 ∧ Sub s' ⟨[se 0 a, se 1 b, se 5 z2u5], []⟩) (fun _ k78 => ?_) ?_
    ·refine AWp.block ?_
     obtain ⟨x79, h80, hg⟩ := bnd_some hg
     obtain ⟨h80a, h80b, h80f⟩ := at_e h80; have h80g := h80f; try simp at h80g
     obtain ⟨x81, h82, hg⟩ := bnd_some hg
     obtain ⟨h82a, h82b, h82f⟩ := at_e h82; have h82g := h82f; try simp at h82g
     obtain ⟨x83, h84, hg⟩ := bnd_some hg
     refine AWp.rDF hV mixed none 8 [] [0, 1, 5, 6] (by decide) fun K k85 => ?_
     simp [sp47, h80f, h80g, h82f, h82g, h84]; repeat refine ai ?_
     refine kd [se 0 a, se 1 b, se 5 z2u5, se 6 x83] [] (by first | rfl | (simp [sp47, h80f, h80g, h82f, h82g, h84] <;> grind)) (k85 _ ?_)
     obtain ⟨x86, h87, hg⟩ := bnd_some hg
     obtain ⟨h87a, h87b, h87f⟩ := at_e h87; have h87g := h87f; try simp at h87g
     obtain ⟨x88, h89, hg⟩ := bnd_some hg
     obtain ⟨h89a, h89b, h89f⟩ := at_e h89; have h89g := h89f; try simp at h89g
     obtain ⟨x90, h91, hg⟩ := bnd_some hg
     refine AWp.rDF hV mixed none 10 [] [0, 1, 5, 6, 7] (by decide) fun K k92 => ?_
     simp [sp14, h87f, h87g, h89f, h89g, h91]; repeat refine ai ?_
     refine kd [se 0 a, se 1 b, se 5 z2u5, se 6 x83, se 7 x90] [] (by first | rfl | (simp [sp14, h87f, h87g, h89f, h89g, h91] <;> grind)) (k92 _ ?_)
     obtain ⟨y93u44, hx94, hg⟩ := bnd_some hg
     unfold r14SameMeasures_r9 at hx94
     refine AWp.seqJ (fun s' => Sub s' ⟨[se 0 a, se 1 b, se 5 z2u5, se 44 y93u44], []⟩) (fun _ k95 => ?_) ?_
     ·rcases ifb_o hx94 with ⟨c96, hx94⟩ | ⟨c96, hx94⟩
      ·have c96g := c96; try simp at c96g
       refine AWp.regF hV (some [42, 43]) [0, 1, 5, 44] fun K k97 => ?_
       simp [c96, c96g]; repeat refine ai ?_
       cases hx94; exact k97 _ (k95 _ (Sub.rm []))
      ·have c96g := c96; try simp at c96g
       refine AWp.regF hV (some []) [0, 1, 5, 44] fun K k98 => ?_
       simp [c96, c96g]; repeat refine ai ?_
       cases hx94; exact k98 _ (k95 _ (Sub.rm []))
     ·intro s' hs
      refine AWp.sub hs ?_
      clear hs s'
      refine AWp.cnd hg rfl ?_ ?_ <;> (clear hg; intro h99 hg)
      ·refine AWp.rS hV none [4] fun K k100 => ?_
       simp; repeat refine ai ?_
       refine kc [se 4 false] [] (k100 _ ?_)
       refine AWp.ret ?_
       cases hx72 _ (oij hg).symm; have hg := hq70; try dsimp only at hg
       cases hg; exact hQ _ _ (.inl rfl) rt
      ·refine AWp.skip ?_
       exact k78 _ ⟨hg, Sub.rm []⟩
    ·rintro s' ⟨hg, hs⟩
     unfold r14SameMeasures_j8 at hg
     refine AWp.sub hs ?_
     obtain ⟨g102, hg⟩ := grd_some hg
     unfold inI at g102
     refine AWp.regF hV none [0, 1, 5] fun K k103 => ?_
     simp; repeat refine ai ?_
     refine kc [se 0 a, se 1 b, se 5 ((z2u5 + 1) : Int)] [] (k103 _ ?_)
     exact k9 _ _ (oij hg).symm (Sub.rm [])
   ·refine AWp.exit ?_
    cases hx72 _ (oij hg).symm; have hg := hq70; try dsimp only at hg
    exact k7 _ ⟨hg, Sub.rm []⟩
  ·rintro s' ⟨hg, hs⟩
   unfold r14SameMeasures_j1 at hg
   refine AWp.sub hs ?_
   refine AWp.rS hV none [4] fun K k107 => ?_
   simp; repeat refine ai ?_
   refine kc [se 4 true] [] (k107 _ ?_)
   refine AWp.ret ?_
   cases hg; exact hQ _ _ (.inl rfl) rt
noncomputable def sp7 : Eva.Spec := specO2 fun (a : View) (b : View) => (r14Same a b).map fun r => enc r
theorem ok7 : SpecOk Tryd.prog 7 sp7 := by
 have hV : VOk Tryd.prog (env [(24, sp24)]) := env_ok ⟨ok24, trivial⟩
 refine SpecOk.ofO2 (Enters.of Tryd.func7 (by decide)) fun a b rr hr => ?_
 obtain ⟨r, hg, rfl⟩ := mpj hr; clear hr
 refine PureCon.ofN hV Tryd.func7 rfl Tryd.ntmps7 fun R hR w0 I0 Q hQ => ?_
 unfold r14Same at hg
 refine AWp.rS hV none [2, 3] fun K k1 => ?_
 simp; repeat refine ai ?_
 refine kc [(2, .ptr 0 0), (3, .ptr 1 0)] [.w 27 a, .w 27 b] (k1 _ ?_)
 obtain ⟨x2, h3, hg⟩ := bnd_some hg
 refine AWp.rS hV none [2, 3, 5] fun K k4 => ?_
 simp [sp24, h3]; repeat refine ai ?_
 refine kd [(2, .ptr 0 0), (3, .ptr 1 0), se 5 x2] [.w 27 a, .w 27 b] (by first | rfl | (simp [sp24, h3] <;> grind)) (k4 _ ?_)
 obtain ⟨y5u4, hx6, hg⟩ := bnd_some hg
 unfold r14Same_r1 at hx6
 refine AWp.seqJ (fun s' => Sub s' ⟨[se 4 y5u4], []⟩) (fun _ k7 => ?_) ?_
 ·rcases ifb_o hx6 with ⟨c8, hx6⟩ | ⟨c8, hx6⟩
  ·have c8g := eq_true (of_decide_eq_true c8)
   refine AWp.regF hV (some []) [4] fun K k9 => ?_
   simp [c8, c8g]; repeat refine ai ?_
   cases hx6; exact k9 _ (k7 _ (Sub.rm []))
  ·have c8g := c8; try simp at c8g
   refine AWp.regF hV (some [17]) [4] fun K k10 => ?_
   simp [c8, c8g]; repeat refine ai ?_
   cases hx6; exact k10 _ (k7 _ (Sub.rm []))
 ·intro s' hs
  refine AWp.sub hs ?_
  clear hs s'
  refine AWp.ret ?_
  cases hg; exact hQ _ _ (.inl rfl) rt
noncomputable def sp15 : Eva.Spec := specO1 fun (v : View) => (r14Few v).map fun r => enc r
theorem ok15 : SpecOk Tryd.prog 15 sp15 := by
 have hV : VOk Tryd.prog (env []) := env_ok trivial
 refine SpecOk.ofO1 (Enters.of Tryd.func15 (by decide)) fun v rr hr => ?_
 obtain ⟨r, hg, rfl⟩ := mpj hr; clear hr
 refine PureCon.ofN hV Tryd.func15 rfl Tryd.ntmps15 fun R hR w0 I0 Q hQ => ?_
 unfold r14Few at hg
 refine AWp.rS hV none [1] fun K k1 => ?_
 simp; repeat refine ai ?_
 refine kc [(1, .ptr 0 0)] [.w 27 v] (k1 _ ?_)
 refine AWp.rS hV none [1, 3] fun K k2 => ?_
 simp; repeat refine ai ?_
 refine kc [(1, .ptr 0 0), se 3 (0 : Int)] [.w 27 v] (k2 _ ?_)
 refine AWp.seqJ (fun s' => ∃ y3u3 : Int, r14Few_j1 v y3u3 = some r ∧ Sub s' ⟨[(1, .ptr 0 0), se 3 y3u3], [.w 27 v]⟩) (fun _ k4 => ?_) ?_
 ·refine AWp.rS hV none [1, 3, 4] fun K k5 => ?_
  simp; repeat refine ai ?_
  refine kc [(1, .ptr 0 0), se 3 (0 : Int), se 4 (0 : Int)] [.w 27 v] (k5 _ ?_)
  refine AWp.block ?_
  obtain ⟨o39, hl40, hq41⟩ := bnd_some hg; clear hg
  refine AWp.loopO (fun ((z2u3, z2u4) : Int × Int) => ⟨[(1, .ptr 0 0), se 3 z2u3, se 4 z2u4], [.w 27 v]⟩) (r14Few_s7 v) (0, 0) hl40 ?_ fun z42 w44 _ hg hx43 k6 => ?_
  ·exact Sub.rm [0]
  obtain ⟨z2u3, z2u4⟩ := z42
  unfold r14Few_s7 at hg; try dsimp only at hg
  show AWp _ _ _ _ _ ⟨[(1, .ptr 0 0), se 3 z2u3, se 4 z2u4], [.w 27 v]⟩ _
  refine AWp.seqG fun _ k45 => ?_
  obtain ⟨y46u13, hx47, hg⟩ := bnd_some hg
  unfold r14Few_r8 at hx47
  refine AWp.seqJ (fun s' => Sub s' ⟨[(1, .ptr 0 0), se 3 z2u3, se 4 z2u4, se 13 y46u13], [.w 27 v]⟩) (fun _ k48 => ?_) ?_
  ·rcases ifb_o hx47 with ⟨c49, hx47⟩ | ⟨c49, hx47⟩
   ·have c49g := c49; try simp at c49g
    refine AWp.regF hV (some []) [1, 3, 4, 13] fun K k50 => ?_
    simp [c49, c49g]; repeat refine ai ?_
    cases hx47; exact k50 _ (k48 _ (Sub.rm [0]))
   ·have c49g := c49; try simp at c49g
    refine AWp.regF hV (some [11, 12]) [1, 3, 4, 13] fun K k51 => ?_
    simp [c49, c49g]; repeat refine ai ?_
    cases hx47; exact k51 _ (k48 _ (Sub.rm [0]))
  ·intro s' hs
   refine AWp.sub hs ?_
   clear hs s'
   refine AWp.cnd hg rfl ?_ ?_ <;> (clear hg; intro h52 hg)
   ·refine AWp.skip ?_
    refine k45 _ ?_
    refine AWp.seqJ (fun s' => ∃ y53u3 : Int, r14Few_j9 z2u4 y53u3 = some w44 ∧ Sub s' ⟨[(1, .ptr 0 0), se 3 y53u3, se 4 z2u4], [.w 27 v]⟩) (fun _ k54 => ?_) ?_
    ·refine AWp.block ?_
     obtain ⟨x55, h56, hg⟩ := bnd_some hg
     obtain ⟨h56a, h56b, h56f⟩ := at_e h56; have h56g := h56f; try simp at h56g
     obtain ⟨g57, hg⟩ := grd_some hg
     unfold inI at g57
     refine AWp.regF hV none [1, 3, 4] fun K k58 => ?_
     simp [h56f, h56g]; repeat refine ai ?_
     refine kd [(1, .ptr 0 0), se 3 ((z2u3 + (x55.notes.length : Int)) : Int), se 4 z2u4] [.w 27 v] (by first | rfl | (simp [h56f, h56g] <;> grind)) (k58 _ ?_)
     exact k54 _ ⟨_, hg, Sub.rm [0]⟩
    ·rintro s' ⟨y53u3, hg, hs⟩
     unfold r14Few_j9 at hg
     refine AWp.sub hs ?_
     obtain ⟨g59, hg⟩ := grd_some hg
     unfold inI at g59
     refine AWp.regF hV none [1, 3, 4] fun K k60 => ?_
     simp; repeat refine ai ?_
     refine kc [(1, .ptr 0 0), se 3 y53u3, se 4 ((z2u4 + 1) : Int)] [.w 27 v] (k60 _ ?_)
     exact k6 _ _ (oij hg).symm (Sub.rm [0])
   ·refine AWp.exit ?_
    cases hx43 _ (oij hg).symm; have hg := hq41; try dsimp only at hg
    exact k4 _ ⟨_, hg, Sub.rm [0]⟩
 ·rintro s' ⟨y3u3, hg, hs⟩
  unfold r14Few_j1 at hg
  refine AWp.sub hs ?_
  obtain ⟨y63u2, hx64, hg⟩ := bnd_some hg
  unfold r14Few_r10 at hx64
  refine AWp.seqJ (fun s' => Sub s' ⟨[se 2 y63u2], []⟩) (fun _ k65 => ?_) ?_
  ·rcases ifb_o hx64 with ⟨c66, hx64⟩ | ⟨c66, hx64⟩
   ·have c66g := c66; try simp at c66g
    refine AWp.regF hV (some []) [2] fun K k67 => ?_
    simp [c66, c66g]; repeat refine ai ?_
    cases hx64; exact k67 _ (k65 _ (Sub.rm []))
   ·have c66g := c66; try simp at c66g
    refine AWp.regF hV (some [30, 31]) [2] fun K k68 => ?_
    simp [c66, c66g]; repeat refine ai ?_
    cases hx64; exact k68 _ (k65 _ (Sub.rm []))
  ·intro s' hs
   refine AWp.sub hs ?_
   clear hs s'
   refine AWp.ret ?_
   cases hg; exact hQ _ _ (.inl rfl) rt
noncomputable def sp13 : Eva.Spec := specO2 fun (a : (List Int)) (b : (List Int)) => (r18SameInts a b).map fun r => enc r
theorem ok13 : SpecOk Tryd.prog 13 sp13 := by
 have hV : VOk Tryd.prog (env []) := env_ok trivial
 refine SpecOk.ofO2 (Enters.of Tryd.func13 (by decide)) fun a b rr hr => ?_
 obtain ⟨r, hg, rfl⟩ := mpj hr; clear hr
 refine PureCon.ofN hV Tryd.func13 rfl Tryd.ntmps13 fun R hR w0 I0 Q hQ => ?_
 unfold r18SameInts at hg
 refine AWp.rS hV none [0, 1] fun K k1 => ?_
 simp; repeat refine ai ?_
 refine kc [se 0 a, se 1 b] [] (k1 _ ?_)
 refine AWp.seqG fun _ k2 => ?_
 refine AWp.rS hV none [0, 1, 10] fun K k3 => ?_
 simp; repeat refine ai ?_
 refine kc [se 0 a, se 1 b, se 10 (!decide ((a.length : Int) = (b.length : Int)))] [] (k3 _ ?_)
 refine AWp.cnd hg rfl ?_ ?_ <;> (clear hg; intro h4 hg)
 ·refine AWp.rS hV none [4] fun K k5 => ?_
  simp; repeat refine ai ?_
  refine kc [se 4 false] [] (k5 _ ?_)
  refine AWp.ret ?_
  cases hg; exact hQ _ _ (.inl rfl) rt
 ·refine AWp.skip ?_
  refine k2 _ ?_
  refine AWp.seqJ (fun s' => r18SameInts_j1 = some r ∧ Sub s' ⟨[], []⟩) (fun _ k7 => ?_) ?_
  ·refine AWp.rS hV none [0, 1, 5] fun K k8 => ?_
   simp; repeat refine ai ?_
   refine kc [se 0 a, se 1 b, se 5 (0 : Int)] [] (k8 _ ?_)
   refine AWp.block ?_
   obtain ⟨o38, hl39, hq40⟩ := bnd_some hg; clear hg
   refine AWp.loopO (fun (z2u5 : Int) => ⟨[se 0 a, se 1 b, se 5 z2u5], []⟩) (r18SameInts_s5 a b) 0 hl39 ?_ fun z2u5 w43 _ hg hx42 k9 => ?_
   ·exact Sub.rm []
   unfold r18SameInts_s5 at hg; try dsimp only at hg
   show AWp _ _ _ _ _ ⟨[se 0 a, se 1 b, se 5 z2u5], []⟩ _
   refine AWp.seqG fun _ k44 => ?_
   refine AWp.rS hV none [0, 1, 5, 14] fun K k45 => ?_
   simp; repeat refine ai ?_
   refine kc [se 0 a, se 1 b, se 5 z2u5, se 14 (decide (z2u5 < (a.length : Int)))] [] (k45 _ ?_)
   refine AWp.cnd hg rfl ?_ ?_ <;> (clear hg; intro h46 hg)
   ·refine AWp.skip ?_
    refine k44 _ ?_
    refine AWp.seqJ (fun s' => r18SameInts_j6 z2u5 = some w43 ∧ Sub s' ⟨[se 0 a, se 1 b, se 5 z2u5], []⟩) (fun _ k48 => ?_) ?_
    ·refine AWp.block ?_
     obtain ⟨x49, h50, hg⟩ := bnd_some hg
     obtain ⟨h50a, h50b, h50f⟩ := at_e h50; have h50g := h50f; try simp at h50g
     obtain ⟨x51, h52, hg⟩ := bnd_some hg
     obtain ⟨h52a, h52b, h52f⟩ := at_e h52; have h52g := h52f; try simp at h52g
     refine AWp.rDF hV mixed none 8 [] [0, 1, 5, 25] (by decide) fun K k53 => ?_
     simp [h50f, h50g, h52f, h52g]; repeat refine ai ?_
     refine kd [se 0 a, se 1 b, se 5 z2u5, se 25 (!decide (x49 = x51))] [] (by first | rfl | (simp [h50f, h50g, h52f, h52g] <;> grind)) (k53 _ ?_)
     refine AWp.cnd hg rfl ?_ ?_ <;> (clear hg; intro h54 hg)
     ·refine AWp.rS hV none [4] fun K k55 => ?_
      simp; repeat refine ai ?_
      refine kc [se 4 false] [] (k55 _ ?_)
      refine AWp.ret ?_
      cases hx42 _ (oij hg).symm; have hg := hq40; try dsimp only at hg
      cases hg; exact hQ _ _ (.inl rfl) rt
     ·refine AWp.skip ?_
      exact k48 _ ⟨hg, Sub.rm []⟩
    ·rintro s' ⟨hg, hs⟩
     unfold r18SameInts_j6 at hg
     refine AWp.sub hs ?_
     obtain ⟨g57, hg⟩ := grd_some hg
     unfold inI at g57
     refine AWp.regF hV none [0, 1, 5] fun K k58 => ?_
     simp; repeat refine ai ?_
     refine kc [se 0 a, se 1 b, se 5 ((z2u5 + 1) : Int)] [] (k58 _ ?_)
     exact k9 _ _ (oij hg).symm (Sub.rm [])
   ·refine AWp.exit ?_
    cases hx42 _ (oij hg).symm; have hg := hq40; try dsimp only at hg
    exact k7 _ ⟨hg, Sub.rm []⟩
  ·rintro s' ⟨hg, hs⟩
   unfold r18SameInts_j1 at hg
   refine AWp.sub hs ?_
   refine AWp.rS hV none [4] fun K k62 => ?_
   simp; repeat refine ai ?_
   refine kc [se 4 true] [] (k62 _ ?_)
   refine AWp.ret ?_
   cases hg; exact hQ _ _ (.inl rfl) rt
end
end Go.Proofs.YtjfkfkjkbgiciaaDoor
namespace Go.Proofs.YtjfkfkjkbgiciaaDoor
open Go Go.Eva Enc
noncomputable def ratValid_r1 (q : Rat) : Option Bool :=
  (ifb (decide (q.d < 1)) (some true) (ifb (decide (1000000 < q.d)) (some true) (ifb (decide (q.n < (-1000000000))) (some true) (some (decide (1000000000 < q.n))))))
noncomputable def ratValid (q : Rat) : Option Bool :=
  bnd (ratValid_r1 q) fun y3u20 =>
  ifb y3u20 (some false)
  (bnd (pReduced (⟨q.n, q.d⟩ : Fraction)) fun x15 =>
  some (decide (x15 = (⟨q.n, q.d⟩ : Fraction))))
noncomputable def isStart_r1 (q : Rat) : Option Bool :=
  (bnd (ratValid q) fun x2 =>
  ifb x2 (ifb (decide (0 ≤ q.n)) (grd (q.d ≠ 0) (some (decide ((Int.tmod 1680 q.d) = 0)))) (some false)) (some false))
noncomputable def isStart (q : Rat) : Option Bool :=
  bnd (isStart_r1 q) fun y5u2 =>
  some y5u2
noncomputable def isNote_r1 (w : Written) : Option Bool :=
  (ifb (decide (0 ≤ w.voice)) (ifb (decide (w.voice ≤ 9)) (ifb (decide (0 ≤ w.ossia)) (ifb (decide (w.ossia ≤ 20)) (bnd (isStart w.start) fun x2 =>
  ifb x2 (bnd (pValid w.pitch) fun x4 =>
  some x4) (some false)) (some false)) (some false)) (some false)) (some false))
noncomputable def isNote (w : Written) : Option Bool :=
  bnd (isNote_r1 w) fun y6u2 =>
  some y6u2
noncomputable def noNote (w : Written) : Option Bool :=
  bnd (isNote w) fun x2 =>
  some (!x2)
noncomputable def ratCompare_r1 (a : Rat) (b : Rat) : Option Bool :=
  (bnd (ratValid a) fun x3 =>
  ifb (!x3) (some true) (bnd (ratValid b) fun x5 =>
  some (!x5)))
noncomputable def ratCompare_j2 : Option (Int × Int) :=
  some (0, 0)
noncomputable def ratCompare (a : Rat) (b : Rat) : Option (Int × Int) :=
  bnd (ratCompare_r1 a b) fun y7u15 =>
  ifb y7u15 (some (0, 1))
  (grd (inI (a.n * b.d)) (grd (inI (b.n * a.d)) (ifb (decide ((a.n * b.d) < (b.n * a.d))) (some ((-1), 0))
  (ifb (decide ((b.n * a.d) < (a.n * b.d))) (some (1, 0))
  (ratCompare_j2)))))
noncomputable def wCompare (a : Written) (b : Written) : Option Int :=
  bnd (ratCompare a.start b.start) fun (x2, x3) =>
  bnd (pNumber a.pitch) fun (x6, x7) =>
  bnd (pNumber b.pitch) fun (x10, x11) =>
  grd (inI (a.voice - b.voice)) (grd (inI (x6 - x10)) (bnd (cCompare a.id b.id) fun x16 =>
  bnd (cOr ([x2, (a.voice - b.voice), (x6 - x10), x16])) fun x18 =>
  some x18))
noncomputable def fit1_r1 (x : Measure) (y : Measure) : Option Bool :=
  (ifb (decide (x.bar = y.bar)) (ifb (decide (x.key = y.key)) (some (decide (x.length = y.length))) (some false)) (some false))
noncomputable def fit1 (x : Measure) (y : Measure) : Option Bool :=
  bnd (fit1_r1 x y) fun y2u4 =>
  some y2u4
@[reducible] def onnPZCmp : Onn := ⟨False⟩
attribute [local instance] rndX onnPZCmp
theorem ifb_t' {β : Type} {c : Bool} {a b : Option β} (h : c = true) : ifb c a b = a := by subst h; rfl
theorem ifb_f' {β : Type} {c : Bool} {a b : Option β} (h : c = false) : ifb c a b = b := by subst h; rfl
theorem bnd_ite {α β : Type} {p : Prop} [Decidable p] (a b : Option α) (f : α → Option β) : bnd (if p then a else b) f = if p then bnd a f else bnd b f := by split <;> rfl
theorem at_eq {α : Type} {l : List α} {k : Nat} {x : α} (h : l[k]? = some x) : at? l (k : Int) = some x := by unfold at?; rw [if_pos (by omega)]; simpa using h
theorem pgcd_eq : ∀ (k : Nat) (a b : Int), b.natAbs ≤ k → 0 ≤ a → 0 ≤ b → pgcd a b = (Int.gcd a b : Int)
  | k, a, b, hk, ha, hb => by
    by_cases h : b = 0
    · subst h; rw [pgcd_zero]; simp [Int.gcd]; omega
    · rw [pgcd_step h, Int.tmod_eq_emod_of_nonneg ha]
      have h1 : 0 ≤ a % b := Int.emod_nonneg _ h
      have h2 : a % b < b := Int.emod_lt_of_pos _ (by omega)
      match k, hk with
      | 0, hk => omega
      | k + 1, hk =>
        rw [pgcd_eq k b (a % b) (by omega) hb h1]
        congr 1
        unfold Int.gcd
        have e : (a % b).natAbs = a.natAbs % b.natAbs := by
          obtain ⟨x, rfl⟩ := Int.eq_ofNat_of_zero_le ha
          obtain ⟨y, rfl⟩ := Int.eq_ofNat_of_zero_le hb
          rw [← Int.natCast_emod]; rfl
        rw [e, Nat.gcd_comm, ← Nat.gcd_rec, Nat.gcd_comm]
theorem rsize_eq {n : Int} (h : inI (0 - n)) : rsize n = some (n.natAbs : Int) := by
  unfold rsize
  rw [grd_eq h]
  congr 1
  omega
def ratOk (q : Rat) : Prop := 1 ≤ q.d ∧ q.d ≤ 1000000 ∧ -1000000000 ≤ q.n ∧ q.n ≤ 1000000000 ∧ Int.gcd q.n q.d = 1
instance (q : Rat) : Decidable (ratOk q) := inferInstanceAs (Decidable (_ ∧ _ ∧ _ ∧ _ ∧ _))
theorem pReduced_eq {n d : Int} (h1 : 1 ≤ d) (h2 : d ≤ 1000000) (h3 : -1000000000 ≤ n) (h4 : n ≤ 1000000000) : pReduced ⟨n, d⟩ = some ⟨n.tdiv (Int.gcd n d), d.tdiv (Int.gcd n d)⟩ := by
  unfold pReduced
  rw [rsize_eq (by unfold inI; dsimp only; omega), bnd_pure, rsize_eq (by unfold inI; dsimp only; omega), bnd_pure, ifb_f' (by simp; omega), pgcd_eq _ _ _ (Nat.le_refl _) (by omega) (by omega)]
  have hg : ((Int.gcd (n.natAbs : Int) (d.natAbs : Int) : Nat) : Int) = (Int.gcd n d : Int) := by simp [Int.gcd]
  dsimp only
  rw [hg]
  have hpos : 0 < Int.gcd n d := Int.gcd_pos_of_ne_zero_right n (by omega)
  have b1 : ((n.tdiv (Int.gcd n d)).natAbs) ≤ n.natAbs := by rw [Int.natAbs_tdiv]; exact Nat.div_le_self _ _
  have b2 : ((d.tdiv (Int.gcd n d)).natAbs) ≤ d.natAbs := by rw [Int.natAbs_tdiv]; exact Nat.div_le_self _ _
  unfold pRed2
  rw [grd_eq (by omega), grd_eq (by unfold inI; dsimp only; omega), grd_eq (by unfold inI; dsimp only; omega)]
theorem ratValid_eq (q : Rat) : ratValid q = some (decide (ratOk q)) := by
  obtain ⟨n, d⟩ := q
  have no : ¬ (1 ≤ d ∧ d ≤ 1000000 ∧ -1000000000 ≤ n ∧ n ≤ 1000000000) → decide (ratOk ⟨n, d⟩) = false := fun h => decide_eq_false fun h' => h ⟨h'.1, h'.2.1, h'.2.2.1, h'.2.2.2.1⟩
  unfold ratValid ratValid_r1
  dsimp only
  by_cases h1 : d < 1
  · rw [ifb_t' (by simp [h1]), bnd_pure, ifb_t' rfl, no (by omega)]
  by_cases h2 : 1000000 < d
  · rw [ifb_f' (by simp [h1]), ifb_t' (by simp [h2]), bnd_pure, ifb_t' rfl, no (by omega)]
  by_cases h3 : n < -1000000000
  · rw [ifb_f' (by simp [h1]), ifb_f' (by simp [h2]), ifb_t' (by simp [h3]), bnd_pure, ifb_t' rfl, no (by omega)]
  rw [ifb_f' (by simp [h1]), ifb_f' (by simp [h2]), ifb_f' (by simp [h3]), bnd_pure]
  by_cases h : 1000000000 < n
  · rw [ifb_t' (by simp [h]), no (by omega)]
  · rw [ifb_f' (by simp [h]), pReduced_eq (by omega) (by omega) (by omega) (by omega), bnd_pure]
    congr 1
    rw [Bool.eq_iff_iff, decide_eq_true_eq, decide_eq_true_eq, Fraction.mk.injEq]
    have hpos : 0 < Int.gcd n d := Int.gcd_pos_of_ne_zero_right n (by omega)
    constructor
    · rintro ⟨_, h2⟩
      refine ⟨by dsimp only; omega, by dsimp only; omega, by dsimp only; omega, by dsimp only; omega, ?_⟩
      by_cases hg : Int.gcd n d = 1
      · exact hg
      · exfalso
        have h3 : (d.tdiv (Int.gcd n d)).natAbs = d.natAbs / Int.gcd n d := by rw [Int.natAbs_tdiv]; rfl
        rw [h2] at h3
        have : d.natAbs / Int.gcd n d < d.natAbs := Nat.div_lt_self (by omega) (by omega)
        omega
    · rintro ⟨_, _, _, _, h5⟩
      dsimp only at h5
      rw [h5]; simp
def startOk (q : Rat) : Prop := ratOk q ∧ 0 ≤ q.n ∧ Int.tmod 1680 q.d = 0
instance (q : Rat) : Decidable (startOk q) := inferInstanceAs (Decidable (_ ∧ _ ∧ _))
theorem isStart_eq (q : Rat) : isStart q = some (decide (startOk q)) := by
  unfold isStart isStart_r1 startOk
  rw [ratValid_eq]
  simp only [ifb_eq, bnd_pure, decide_eq_true_eq]
  by_cases h1 : ratOk q
  · have hd : q.d ≠ 0 := by have := h1.1; omega
    by_cases h2 : 0 ≤ q.n <;> simp [h1, h2, grd_eq hd, bnd_pure]
  · simp [h1, bnd_pure]
def pitchOk (p : Pitch) : Prop := (0 ≤ p.step ∧ p.step ≤ 6) ∧ (-4 ≤ p.alter ∧ p.alter ≤ 4) ∧ (-8 ≤ p.octave ∧ p.octave ≤ 20)
instance (p : Pitch) : Decidable (pitchOk p) := inferInstanceAs (Decidable (_ ∧ _ ∧ _))
theorem pWithin_eq (n lo hi : Int) : pWithin n lo hi = some (decide (lo ≤ n ∧ n ≤ hi)) := by
  unfold pWithin pWithin_r1
  simp only [ifb_eq, decide_eq_true_eq]
  by_cases h : lo ≤ n <;> simp [h, bnd_pure]
theorem pValid_eq (p : Pitch) : pValid p = some (decide (pitchOk p)) := by
  unfold pValid pValid_r1 pitchOk
  simp only [pWithin_eq, bnd_pure, ifb_eq, decide_eq_true_eq]
  by_cases h1 : 0 ≤ p.step ∧ p.step ≤ 6
  · by_cases h2 : -4 ≤ p.alter ∧ p.alter ≤ 4
    · simp [h1, h2, bnd_pure]
    · rw [if_pos h1, if_neg h2, bnd_pure]
      simp only [h1, h2, false_and, and_false, and_true, true_and, decide_false]
  · rw [if_neg h1, bnd_pure]
    simp only [h1, false_and, decide_false]
def noteOk (w : Written) : Prop := (0 ≤ w.voice ∧ w.voice ≤ 9) ∧ (0 ≤ w.ossia ∧ w.ossia ≤ 20) ∧ startOk w.start ∧ pitchOk w.pitch
instance (w : Written) : Decidable (noteOk w) := inferInstanceAs (Decidable (_ ∧ _ ∧ _ ∧ _))
theorem isNote_eq (w : Written) : isNote w = some (decide (noteOk w)) := by
  unfold isNote isNote_r1 noteOk
  simp only [isStart_eq, pValid_eq, bnd_pure, ifb_eq, decide_eq_true_eq]
  by_cases h1 : 0 ≤ w.voice <;> by_cases h2 : w.voice ≤ 9 <;> by_cases h3 : 0 ≤ w.ossia <;> by_cases h4 : w.ossia ≤ 20 <;> by_cases h5 : startOk w.start <;> simp [h1, h2, h3, h4, h5, bnd_pure]
def natv (n : Int) : Int := (natTab[n.toNat]?).getD 0
def num (p : Pitch) : Int := 12 * p.octave + natv p.step + p.alter
theorem natv_bd (n : Int) : 0 ≤ natv n ∧ natv n ≤ 11 := by
  unfold natv natTab
  generalize n.toNat = k
  rcases k with _ | _ | _ | _ | _ | _ | _ | k <;> simp
theorem pNumber_eq (p : Pitch) : pNumber p = some (if pitchOk p then (num p, 0) else (0, 1)) := by
  unfold pNumber
  rw [pValid_eq, bnd_pure]
  by_cases h : pitchOk p
  · have hp := h
    obtain ⟨⟨h1, h2⟩, ⟨h3, h4⟩, h5, h6⟩ := h
    have hn := natv_bd p.step
    rw [ifb_f' (by simp [hp]), if_pos hp]
    unfold pnumber
    have ha : at? natTab p.step = some (natv p.step) := by
      unfold at? natv
      rw [if_pos h1]
      have : p.step.toNat < natTab.length := by rw [len_natTab]; omega
      rw [List.getElem?_eq_getElem this]; rfl
    rw [grd_eq (by unfold inI; omega), bnd_eq ha, grd_eq (by unfold inI; omega), grd_eq (by unfold inI; omega), bnd_pure]
    rfl
  · rw [ifb_t' (by simp [h]), if_neg h]
def cmpI (x y : Int) : Int := if x < y then -1 else if y < x then 1 else 0
theorem cCompare_eq (x y : Int) : cCompare x y = some (cmpI x y) := by
  unfold cCompare isNaN cmpI
  rw [bnd_pure, bnd_pure, ifb_f' rfl, ifb_f' rfl]
  simp only [ifb_eq, decide_eq_true_eq]
  split
  · rfl
  split <;> rfl
theorem ratCompare_eq {a b : Rat} (ha : ratOk a) (hb : ratOk b) : ratCompare a b = some (cmpI (a.n * b.d) (b.n * a.d), 0) := by
  unfold ratCompare ratCompare_r1 ratCompare_j2
  simp only [ratValid_eq, bnd_pure, ifb_eq, ha, hb, decide_true, Bool.not_true, Bool.false_eq_true, if_false]
  have key : ∀ {x y : Rat}, ratOk x → ratOk y → inI (x.n * y.d) := by
    intro x y ⟨_, _, h3, h4, _⟩ ⟨h1, h2, _⟩
    unfold inI
    have e1 : x.n * y.d ≤ 1000000000 * y.d := Int.mul_le_mul_of_nonneg_right h4 (by omega)
    have e2 : -1000000000 * y.d ≤ x.n * y.d := Int.mul_le_mul_of_nonneg_right h3 (by omega)
    omega
  rw [grd_eq (key ha hb), grd_eq (key hb ha)]
  unfold cmpI
  simp only [decide_eq_true_eq]
  split
  · rfl
  split <;> rfl
def or4 (a b c d : Int) : Int := if a ≠ 0 then a else if b ≠ 0 then b else if c ≠ 0 then c else d
theorem cOr_step {l : List Int} {k : Nat} {x : Int} (hl : l.length ≤ 1000) (h : l[k]? = some x) : cOr_s5 l (k : Int) = if x = 0 then some (.inl ((k + 1 : Nat) : Int)) else some (.inr (.inl x)) := by
  have hk := (List.getElem?_eq_some_iff.1 h).1
  unfold cOr_s5 cOr_j6
  rw [ifb_t' (by simpa using hk), bnd_eq (at_eq h), grd_eq (by unfold inI; omega)]
  by_cases hx : x = 0
  · rw [if_pos hx, ifb_f' (by simp [hx])]; rfl
  · rw [if_neg hx, ifb_t' (by simp [hx])]
theorem cOr_end {l : List Int} {k : Nat} (h : l.length ≤ k) : cOr_s5 l (k : Int) = some (.inr (.inr ())) := by
  unfold cOr_s5
  rw [ifb_f' (by simpa using h)]
theorem cOr_eq (a b c d : Int) : cOr [a, b, c, d] = some (or4 a b c d) := by
  have h0 := cOr_step (l := [a, b, c, d]) (k := 0) (x := a) (by simp) rfl
  have h1 := cOr_step (l := [a, b, c, d]) (k := 1) (x := b) (by simp) rfl
  have h2 := cOr_step (l := [a, b, c, d]) (k := 2) (x := c) (by simp) rfl
  have h3 := cOr_step (l := [a, b, c, d]) (k := 3) (x := d) (by simp) rfl
  have h4 := cOr_end (l := [a, b, c, d]) (k := 4) (by simp)
  have e0 : loopO (cOr_s5 [a, b, c, d]) 0 = loopO (cOr_s5 [a, b, c, d]) ((0 : Nat) : Int) := rfl
  unfold cOr or4
  rw [e0]
  by_cases ha : a = 0
  · rw [if_pos ha] at h0
    rw [loopO_inl h0, if_neg (by simpa using ha)]
    by_cases hb : b = 0
    · rw [if_pos hb] at h1
      rw [loopO_inl h1, if_neg (by simpa using hb)]
      by_cases hc : c = 0
      · rw [if_pos hc] at h2
        rw [loopO_inl h2, if_neg (by simpa using hc)]
        by_cases hd : d = 0
        · rw [if_pos hd] at h3
          rw [loopO_inl h3, loopO_inr h4, bnd_pure, hd]; rfl
        · rw [if_neg hd] at h3
          rw [loopO_inr h3, bnd_pure]
      · rw [if_neg hc] at h2
        rw [loopO_inr h2, bnd_pure, if_pos hc]
    · rw [if_neg hb] at h1
      rw [loopO_inr h1, bnd_pure, if_pos hb]
  · rw [if_neg ha] at h0
    rw [loopO_inr h0, bnd_pure, if_pos ha]
def orderW (a b : Written) : Int := or4 (cmpI (a.start.n * b.start.d) (b.start.n * a.start.d)) (a.voice - b.voice) (num a.pitch - num b.pitch) (cmpI a.id b.id)
theorem wCompare_eq {a b : Written} (ha : noteOk a) (hb : noteOk b) : wCompare a b = some (orderW a b) := by
  obtain ⟨⟨a1, a2⟩, _, ⟨a3, _⟩, a4⟩ := ha
  obtain ⟨⟨b1, b2⟩, _, ⟨b3, _⟩, b4⟩ := hb
  unfold wCompare orderW
  rw [ratCompare_eq a3 b3, bnd_pure]
  dsimp only
  rw [pNumber_eq, if_pos a4, bnd_pure]
  dsimp only
  rw [pNumber_eq, if_pos b4, bnd_pure]
  have hn : ∀ {p : Pitch}, pitchOk p → -200 ≤ num p ∧ num p ≤ 300 := by
    intro p ⟨_, _, _⟩
    have := natv_bd p.step
    unfold num; omega
  have n1 := hn a4
  have n2 := hn b4
  dsimp only
  rw [grd_eq (by unfold inI; omega), grd_eq (by unfold inI; omega), cCompare_eq, bnd_pure, cOr_eq, bnd_pure]
end Go.Proofs.YtjfkfkjkbgiciaaDoor
namespace Go.Proofs.YtjfkfkjkbgiciaaDoor
open Go Go.Eva Enc
@[reducible] def onnPZOrd : Onn := ⟨False⟩
attribute [local instance] rndX onnPZOrd
def tick (w : Written) : Int := w.start.n * Int.tdiv 1680 w.start.d
def Lex (a b : Written) : Prop := tick a < tick b ∨ (tick a = tick b ∧ (a.voice < b.voice ∨ (a.voice = b.voice ∧ (num a.pitch < num b.pitch ∨ (num a.pitch = num b.pitch ∧ a.id < b.id)))))
theorem cross {n1 d1 k1 n2 d2 k2 : Int} (h1 : d1 * k1 = 1680) (h2 : d2 * k2 = 1680) (hd1 : 0 < d1) (hd2 : 0 < d2) : n1 * d2 < n2 * d1 ↔ n1 * k1 < n2 * k2 := by
  have p1 : 0 < k1 := by
    by_cases h : 0 < k1
    · exact h
    · have := Int.mul_nonpos_of_nonneg_of_nonpos (Int.le_of_lt hd1) (Int.not_lt.1 h); omega
  have p2 : 0 < k2 := by
    by_cases h : 0 < k2
    · exact h
    · have := Int.mul_nonpos_of_nonneg_of_nonpos (Int.le_of_lt hd2) (Int.not_lt.1 h); omega
  have hK : 0 < k1 * k2 := Int.mul_pos p1 p2
  have e1 : n1 * d2 * (k1 * k2) = n1 * k1 * 1680 := by rw [← h2]; ac_rfl
  have e2 : n2 * d1 * (k1 * k2) = n2 * k2 * 1680 := by rw [← h1]; ac_rfl
  constructor
  · intro h
    have := Int.mul_lt_mul_of_pos_right h hK
    rw [e1, e2] at this; omega
  · intro h
    have : n1 * d2 * (k1 * k2) < n2 * d1 * (k1 * k2) := by rw [e1, e2]; omega
    exact Int.lt_of_mul_lt_mul_right this (Int.le_of_lt hK)
theorem start_dk {q : Rat} (h : startOk q) : q.d * Int.tdiv 1680 q.d = 1680 ∧ 0 < q.d := by
  have := Int.tmod_add_mul_tdiv 1680 q.d
  rw [h.2.2] at this
  exact ⟨by omega, by have := h.1.1; omega⟩
theorem cmp_tick {a b : Written} (ha : noteOk a) (hb : noteOk b) : cmpI (a.start.n * b.start.d) (b.start.n * a.start.d) = cmpI (tick a) (tick b) := by
  obtain ⟨h1, h2⟩ := start_dk ha.2.2.1
  obtain ⟨h3, h4⟩ := start_dk hb.2.2.1
  unfold cmpI tick
  simp only [cross h1 h3 h2 h4, cross h3 h1 h4 h2]
theorem order_lex {a b : Written} (ha : noteOk a) (hb : noteOk b) : orderW a b < 0 ↔ Lex a b := by
  unfold orderW
  rw [cmp_tick ha hb]
  unfold or4 cmpI Lex
  by_cases h1 : tick a < tick b
  · simp [h1]
  by_cases h2 : tick b < tick a
  · simp only [h1, h2, if_true, if_false]
    constructor
    · intro h; simp at h
    · intro h; exfalso; rcases h with h | ⟨h, _⟩ <;> first | exact h.elim | omega
  simp only [h1, h2, if_false]
  by_cases h3 : a.id < b.id
  · simp only [h3, if_true]
    by_cases h4 : a.voice - b.voice = 0 <;> by_cases h5 : num a.pitch - num b.pitch = 0 <;> simp [h4, h5] <;> omega
  · by_cases h6 : b.id < a.id
    · simp only [h3, h6, if_true, if_false]
      by_cases h4 : a.voice - b.voice = 0 <;> by_cases h5 : num a.pitch - num b.pitch = 0 <;> simp [h4, h5] <;> omega
    · simp only [h3, h6, if_false]
      by_cases h4 : a.voice - b.voice = 0 <;> by_cases h5 : num a.pitch - num b.pitch = 0 <;> simp [h4, h5] <;> omega
theorem lex_trans {a b c : Written} (h : Lex a b) (k : Lex b c) : Lex a c := by unfold Lex at *; omega
theorem lex_irrefl (a : Written) : ¬ Lex a a := by unfold Lex; omega
theorem lex_ntrans {a b c : Written} (h : ¬ Lex a b) (k : ¬ Lex b c) : ¬ Lex a c := by unfold Lex at *; omega
theorem lex_anti {a b : Written} (h : ¬ Lex a b) (k : ¬ Lex b a) : a.id = b.id := by unfold Lex at *; omega
instance (a b : Written) : Decidable (Lex a b) := inferInstanceAs (Decidable (_ ∨ _))
def sortW (l : List Written) : List Written := l.mergeSort fun a b => !decide (Lex b a)
theorem sortW_perm (l : List Written) : (sortW l).Perm l := List.mergeSort_perm _ _
theorem sortW_sorted (l : List Written) : (sortW l).Pairwise fun a b => ¬ Lex b a := by
  have := List.pairwise_mergeSort (le := fun a b => !decide (Lex b a)) (fun a b c h1 h2 => by
    simp only [Bool.not_eq_true', decide_eq_false_iff_not] at *
    exact lex_ntrans h2 h1) (fun a b => by
    simp only [Bool.or_eq_true, Bool.not_eq_true', decide_eq_false_iff_not]
    by_cases h : Lex b a
    · right; intro h2; exact lex_irrefl _ (lex_trans h h2)
    · left; exact h) l
  exact this.imp fun h => by simpa using h
theorem sorted_uniq {l m : List Written} (hl : l.Pairwise fun a b => ¬ Lex b a) (hm : m.Pairwise fun a b => ¬ Lex b a) (hp : l.Perm m) (hn : (l.map Written.id).Nodup) : l = m := by
  refine List.Perm.eq_of_pairwise (le := fun a b => ¬ Lex b a) (fun a b ha hb h1 h2 => ?_) hl hm hp
  have hb' : b ∈ l := hp.symm.subset hb
  have hid := lex_anti h2 h1
  have : ∀ (x y : Written), x ∈ l → y ∈ l → x.id = y.id → x = y := by
    clear hl hm hp ha hb hb' h1 h2 hid
    induction l with
    | nil => intro x y hx; cases hx
    | cons z l ih =>
      simp only [List.map_cons, List.nodup_cons] at hn
      intro x y hx hy hxy
      rcases List.mem_cons.1 hx with hx | hx
      · rcases List.mem_cons.1 hy with hy | hy
        · rw [hx, hy]
        · exact absurd (List.mem_map.2 ⟨y, hy, by rw [← hxy, hx]⟩) hn.1
      · rcases List.mem_cons.1 hy with hy | hy
        · exact absurd (List.mem_map.2 ⟨x, hx, by rw [hxy, hy]⟩) hn.1
        · exact ih hn.2 x y hx hy hxy
  exact this a b ha hb' hid
theorem sortW_of_perm {l m : List Written} (hp : l.Perm m) (hn : (l.map Written.id).Nodup) : sortW l = sortW m := by
  refine sorted_uniq (sortW_sorted l) (sortW_sorted m) (((sortW_perm l).trans hp).trans (sortW_perm m).symm) ?_
  exact ((sortW_perm l).map Written.id).nodup_iff.2 hn
end Go.Proofs.YtjfkfkjkbgiciaaDoor
namespace Go.Proofs.YtjfkfkjkbgiciaaDoor
open Go Go.Eva Enc
@[reducible] def onnPZGen : Onn := ⟨False⟩
attribute [local instance] rndX onnPZGen
def foldS {α σ ρ : Type} (f : σ → α → σ ⊕ ρ) (fin : σ → ρ) : List α → σ → ρ
  | [], z => fin z
  | x :: xs, z => match f z x with
    | .inl z' => foldS f fin xs z'
    | .inr r => r
theorem loop_fold {α σ τ ρ : Type} (st : σ → Int → τ) {step : τ → Option (τ ⊕ ρ)} {l : List α} (f : σ → α → σ ⊕ ρ) (fin : σ → ρ) (Inv : Nat → σ → Prop)
    (h : ∀ (k : Nat) x z, l[k]? = some x → Inv k z → step (st z (k : Int)) = some (match f z x with | .inl z' => .inl (st z' ((k + 1 : Nat) : Int)) | .inr r => .inr r))
    (hinv : ∀ (k : Nat) x z z', l[k]? = some x → Inv k z → f z x = .inl z' → Inv (k + 1) z')
    (hend : ∀ z, Inv l.length z → step (st z (l.length : Int)) = some (.inr (fin z))) (z0 : σ) (h0 : Inv 0 z0) : loopO step (st z0 0) = some (foldS f fin l z0) := by
  have key : ∀ (n k : Nat) (z : σ), k + n = l.length → Inv k z → loopO step (st z (k : Int)) = some (foldS f fin (l.drop k) z) := by
    intro n
    induction n with
    | zero =>
      intro k z hk hi
      have : k = l.length := by omega
      subst this
      rw [List.drop_length]
      exact loopO_inr (hend z hi)
    | succ n ih =>
      intro k z hk hi
      have hlt : k < l.length := by omega
      have hx : l[k]? = some l[k] := List.getElem?_eq_getElem hlt
      rw [List.drop_eq_getElem_cons hlt]
      have hs := h k _ z hx hi
      simp only [foldS]
      cases hf : f z l[k] with
      | inl z' =>
        rw [hf] at hs
        rw [loopO_inl hs]
        exact ih (k + 1) z' (by omega) (hinv k _ z z' hx hi hf)
      | inr r =>
        rw [hf] at hs
        rw [loopO_inr hs]
  simpa using key l.length 0 z0 (by omega) h0
theorem foldS_inl {α σ ρ : Type} {f : σ → α → σ ⊕ ρ} {fin : σ → ρ} (g : σ → α → σ) : ∀ (l : List α) (z : σ), (∀ z x, x ∈ l → f z x = .inl (g z x)) → foldS f fin l z = fin (l.foldl g z)
  | [], z, _ => rfl
  | x :: l, z, h => by
    simp only [foldS, h z x (by simp), List.foldl_cons]
    exact foldS_inl g l _ fun z y hy => h z y (by simp [hy])
theorem loop_any {α ρ : Type} {step : Int → Option (Int ⊕ (ρ ⊕ Unit))} {l : List α} (p : α → Bool) (r : ρ)
    (h : ∀ (k : Nat) x, l[k]? = some x → step (k : Int) = some (if p x = true then .inr (.inl r) else .inl ((k + 1 : Nat) : Int))) (hend : step (l.length : Int) = some (.inr (.inr ()))) :
    loopO step 0 = some (if l.any p = true then .inl r else .inr ()) := by
  have := loop_fold (σ := Unit) (st := fun _ k => k) (step := step) (l := l) (fun _ x => if p x = true then .inr (.inl r) else .inl ()) (fun _ => .inr ()) (fun _ _ => True) (fun k x z hx _ => by
    rw [h k x hx]; split <;> rename_i hp <;> simp [hp]) (fun _ _ _ _ _ _ _ => trivial) (fun z _ => hend) () trivial
  rw [this]
  congr 1
  clear this h hend
  induction l with
  | nil => rfl
  | cons x l ih =>
    simp only [foldS, List.any_cons]
    by_cases hp : p x = true
    · simp [hp]
    · simp only [hp, Bool.false_or]
      simpa using ih
theorem grdI {β : Type} {n : Int} {o : Option β} (h : -9223372036854775808 ≤ n ∧ n ≤ 9223372036854775807) : grd (inI n) o = o := grd_eq h
abbrev BB : Nat := 1048576
theorem lt_of_get {α : Type} {l : List α} {k : Nat} {x : α} (h : l[k]? = some x) : k < l.length := (List.getElem?_eq_some_iff.1 h).1
theorem r18SameInts_eq {a b : List Int} (ha : a.length ≤ BB) : r18SameInts a b = some (decide (a = b)) := by
  have ha' : a.length ≤ 1048576 := ha
  unfold r18SameInts
  by_cases hl : a.length = b.length
  · rw [ifb_f' (by simp [hl])]
    have hs : loopO (r18SameInts_s5 a b) 0 = some (if (a.zip b).any (fun p => decide (p.1 ≠ p.2)) = true then .inl false else .inr ()) := by
      refine loop_any (l := a.zip b) (fun p => decide (p.1 ≠ p.2)) false (fun k x hx => ?_) ?_
      · have hz := List.getElem?_zip_eq_some.1 hx
        have hk := lt_of_get hz.1
        unfold r18SameInts_s5 r18SameInts_j6
        rw [ifb_t' (by simpa using hk), bnd_eq (at_eq hz.1), bnd_eq (at_eq hz.2)]
        by_cases he : x.1 = x.2
        · rw [ifb_f' (by simp [he]), grdI (by omega)]; simp [he]
        · rw [ifb_t' (by simp [he])]; simp [he]
      · have : (a.zip b).length = a.length := by simp [hl]
        rw [this]
        unfold r18SameInts_s5
        rw [ifb_f' (by simp)]
    rw [hs, bnd_pure]
    by_cases he : a = b
    · subst he
      have : (a.zip a).any (fun p => decide (p.1 ≠ p.2)) = false := by
        rw [List.any_eq_false]; intro p hp
        obtain ⟨i, hi, rfl⟩ := List.mem_iff_getElem.1 hp
        simp
      rw [this]; simp [r18SameInts_j1]
    · have : (a.zip b).any (fun p => decide (p.1 ≠ p.2)) = true := by
        rw [List.any_eq_true]
        have : ∃ i, ∃ (h1 : i < a.length) (h2 : i < b.length), a[i] ≠ b[i] := by
          refine Classical.byContradiction fun hc => he (List.ext_getElem hl fun i h1 h2 => ?_)
          refine Classical.byContradiction fun hn => hc ⟨i, h1, h2, hn⟩
        obtain ⟨i, h1, h2, hne⟩ := this
        exact ⟨(a[i], b[i]), List.mem_iff_getElem.2 ⟨i, by simp; omega, by simp⟩, by simpa using hne⟩
      rw [this]; simp [he]
  · rw [ifb_t' (by simp; omega)]
    have : a ≠ b := fun e => hl (by rw [e])
    simp [this]
end Go.Proofs.YtjfkfkjkbgiciaaDoor
namespace Go.Proofs.YtjfkfkjkbgiciaaDoor
open Go Go.Eva Enc
@[reducible] def onnPZPl1 : Onn := ⟨False⟩
attribute [local instance] rndX onnPZPl1
theorem loop_same {α ρ : Type} {a b : List α} (hl : a.length = b.length) (e : α → α → Bool) {step : Int → Option (Int ⊕ (ρ ⊕ Unit))} (r : ρ)
    (h : ∀ (k : Nat) x y, a[k]? = some x → b[k]? = some y → step (k : Int) = some (if e x y = true then .inl ((k + 1 : Nat) : Int) else .inr (.inl r))) (hend : step (a.length : Int) = some (.inr (.inr ()))) :
    loopO step 0 = some (if (a.zip b).all (fun p => e p.1 p.2) = true then .inr () else .inl r) := by
  have := loop_any (step := step) (l := a.zip b) (fun p => !(e p.1 p.2)) r (fun k x hx => by
    have hz := List.getElem?_zip_eq_some.1 hx
    rw [h k _ _ hz.1 hz.2]
    by_cases he : e x.1 x.2 = true <;> simp [he]) (by
    have : (a.zip b).length = a.length := by simp [hl]
    rw [this]; exact hend)
  rw [this]
  congr 1
  by_cases hc : (a.zip b).all (fun p => e p.1 p.2) = true
  · have : (a.zip b).any (fun p => !(e p.1 p.2)) = false := by
      rw [List.any_eq_false]; intro p hp
      have := List.all_eq_true.1 hc p hp
      simp [this]
    rw [this, if_pos hc]; simp
  · have : (a.zip b).any (fun p => !(e p.1 p.2)) = true := by
      rw [List.any_eq_true]
      refine Classical.byContradiction fun hn => hc (List.all_eq_true.2 fun p hp => ?_)
      refine Classical.byContradiction fun hq => hn ⟨p, hp, by simpa using hq⟩
    rw [this, if_neg hc]; simp
theorem zip_all {α : Type} [DecidableEq α] {a b : List α} (hl : a.length = b.length) {e : α → α → Bool} (he : ∀ x y, e x y = true ↔ x = y) : ((a.zip b).all fun p => e p.1 p.2) = decide (a = b) := by
  rw [Bool.eq_iff_iff, decide_eq_true_eq, List.all_eq_true]
  constructor
  · intro h
    refine List.ext_getElem hl fun i h1 h2 => ?_
    exact (he _ _).1 (h (a[i], b[i]) (List.mem_iff_getElem.2 ⟨i, by simp; omega, by simp⟩))
  · rintro rfl p hp
    obtain ⟨i, hi, rfl⟩ := List.mem_iff_getElem.1 hp
    simp [he]
theorem r14SameWritten_eq {a b : List Written} (ha : a.length ≤ 1048576) : r14SameWritten a b = some (decide (a = b)) := by
  unfold r14SameWritten
  by_cases hl : a.length = b.length
  · rw [ifb_f' (by simp [hl]), loop_same hl (fun x y => decide (x = y)) false (fun k x y hx hy => by
      have hk := lt_of_get hx
      unfold r14SameWritten_s5 r14SameWritten_j6
      rw [ifb_t' (by simpa using hk), bnd_eq (at_eq hx), bnd_eq (at_eq hy)]
      by_cases he : x = y
      · rw [ifb_f' (by simp [he]), grdI (by omega)]; simp [he]
      · rw [ifb_t' (by simp [he])]; simp [he]) (by unfold r14SameWritten_s5; rw [ifb_f' (by simp)]), bnd_pure, zip_all hl (e := fun x y => decide (x = y)) (fun x y => by simp)]
    by_cases he : a = b <;> simp [he, r14SameWritten_j1]
  · rw [ifb_t' (by simp; omega)]
    have : a ≠ b := fun e => hl (by rw [e])
    simp [this]
theorem r14same_eq (a b : Measure) : r14same a b = some (decide (a.bar = b.bar ∧ a.key = b.key ∧ a.length = b.length)) := by
  unfold r14same r14same_r1
  simp only [ifb_eq, decide_eq_true_eq]
  by_cases h1 : a.bar = b.bar <;> by_cases h2 : a.key = b.key <;> simp [h1, h2, bnd_pure]
theorem measure_ext {a b : Measure} : a = b ↔ (a.bar = b.bar ∧ a.key = b.key ∧ a.length = b.length) ∧ a.notes = b.notes := by
  cases a; cases b; simp [and_assoc]
def Sm (v : View) : Prop := v.measures.length ≤ 1048576 ∧ ∀ m ∈ v.measures, m.notes.length ≤ 1048576
theorem r14SameMeasures_eq {a b : List Measure} (ha : a.length ≤ 1048576) (hn : ∀ m ∈ a, m.notes.length ≤ 1048576) : r14SameMeasures a b = some (decide (a = b)) := by
  unfold r14SameMeasures
  by_cases hl : a.length = b.length
  · rw [ifb_f' (by simp [hl]), loop_same hl (fun x y => decide (x = y)) false (fun k x y hx hy => by
      have hk := lt_of_get hx
      unfold r14SameMeasures_s7 r14SameMeasures_j8 r14SameMeasures_r9
      rw [ifb_t' (by simpa using hk), bnd_eq (at_eq hx), bnd_eq (at_eq hy), r14same_eq, bnd_pure, bnd_eq (at_eq hx), bnd_eq (at_eq hy), r14SameWritten_eq (hn x (List.mem_of_getElem? hx)), bnd_pure]
      by_cases h1 : x.bar = y.bar ∧ x.key = y.key ∧ x.length = y.length
      · by_cases h2 : x.notes = y.notes
        · rw [ifb_f' (by simp [h1]), bnd_pure, ifb_f' (by simp [h2]), grdI (by omega)]
          have : x = y := measure_ext.2 ⟨h1, h2⟩
          simp [this]
        · rw [ifb_f' (by simp [h1]), bnd_pure, ifb_t' (by simp [h2])]
          have : x ≠ y := fun e => h2 (measure_ext.1 e).2
          simp [this]
      · rw [ifb_t' (by simp only [Bool.not_eq_true', decide_eq_false_iff_not]; exact h1), bnd_pure, ifb_t' rfl]
        have : x ≠ y := fun e => h1 (measure_ext.1 e).1
        simp [this]) (by unfold r14SameMeasures_s7; rw [ifb_f' (by simp)]), bnd_pure, zip_all hl (e := fun x y => decide (x = y)) (fun x y => by simp)]
    by_cases he : a = b <;> simp [he, r14SameMeasures_j1]
  · rw [ifb_t' (by simp; omega)]
    have : a ≠ b := fun e => hl (by rw [e])
    simp [this]
theorem r14Same_eq {a b : View} (ha : Sm a) : r14Same a b = some (decide (a = b)) := by
  unfold r14Same r14Same_r1
  rw [r14SameMeasures_eq ha.1 ha.2, bnd_pure]
  obtain ⟨p, l⟩ := a; obtain ⟨q, m⟩ := b
  by_cases h : p = q
  · rw [ifb_t' (by simp [h]), bnd_pure]; simp [h]
  · rw [ifb_f' (by simp [h]), bnd_pure]; simp [h]
def total (l : List Measure) : Int := l.foldl (fun n m => n + (m.notes.length : Int)) 0
theorem total_acc (l : List Measure) (n : Int) : l.foldl (fun n m => n + (m.notes.length : Int)) n = n + total l := by
  unfold total
  induction l generalizing n with
  | nil => simp
  | cons m l ih => rw [List.foldl_cons, ih, List.foldl_cons, ih (0 + _)]; omega
theorem total_cons (m : Measure) (l : List Measure) : total (m :: l) = m.notes.length + total l := by
  unfold total; rw [List.foldl_cons, total_acc, Int.zero_add]; rfl
theorem total_nonneg (l : List Measure) : 0 ≤ total l := by
  induction l with
  | nil => simp [total]
  | cons m l ih => rw [total_cons]; omega
theorem total_le (l : List Measure) (h : ∀ m ∈ l, m.notes.length ≤ 1048576) : total l ≤ l.length * 1048576 := by
  induction l with
  | nil => simp [total]
  | cons m l ih =>
    rw [total_cons]
    have h1 := h m (by simp)
    have h2 := ih fun m hm => h m (by simp [hm])
    simp only [List.length_cons]; omega
theorem total_mem {l : List Measure} {m : Measure} (hm : m ∈ l) : (m.notes.length : Int) ≤ total l := by
  induction l with
  | nil => cases hm
  | cons x l ih =>
    rw [total_cons]
    have := total_nonneg l
    rcases List.mem_cons.1 hm with rfl | h
    · omega
    · have := ih h; omega
def few (v : View) : Prop := v.measures.length ≤ 60 ∧ total v.measures ≤ 80
instance (v : View) : Decidable (few v) := inferInstanceAs (Decidable (_ ∧ _))
theorem r14Few_eq {v : View} (hv : Sm v) : r14Few v = some (decide (few v)) := by
  unfold r14Few
  have hs : loopO (r14Few_s7 v) (0, 0) = some (total (v.measures.take 61)) := by
    have := loop_fold (σ := Int) (st := fun z k => (z, k)) (step := r14Few_s7 v) (l := v.measures.take 61) (fun z m => .inl (z + (m.notes.length : Int))) (fun z => z) (fun k z => 0 ≤ z ∧ z ≤ k * 1048576) (fun k x z hx hi => by
      have hk := lt_of_get hx
      rw [List.length_take] at hk
      have hx' : v.measures[k]? = some x := by rw [List.getElem?_take] at hx; split at hx; exact hx; cases hx
      have hm := hv.2 x (List.mem_of_getElem? hx')
      unfold r14Few_s7 r14Few_r8 r14Few_j9
      dsimp only
      rw [ifb_t' (by simp; omega), bnd_pure, ifb_t' (by simp; omega), bnd_eq (at_eq hx'), grdI (by omega), grdI (by omega)]
      rfl) (fun k x z z' hx hi hz => by
      injection hz with hz
      have hx' : v.measures[k]? = some x := by rw [List.getElem?_take] at hx; split at hx; exact hx; cases hx
      have hm := hv.2 x (List.mem_of_getElem? hx')
      omega) (fun z hi => by
      unfold r14Few_s7 r14Few_r8
      dsimp only
      by_cases h : v.measures.length ≤ 61
      · have : (v.measures.take 61).length = v.measures.length := by simp; omega
        rw [this, ifb_f' (by simp), bnd_pure, ifb_f' rfl]
      · have : (v.measures.take 61).length = 61 := by simp; omega
        rw [this, ifb_t' (by simp; omega), bnd_pure, ifb_f' (by simp)]) 0 ⟨by omega, by omega⟩
    rw [this]
    congr 1
    rw [foldS_inl (fun (z : Int) (m : Measure) => z + (m.notes.length : Int)) _ _ (fun _ _ _ => rfl)]; rfl
  rw [hs, bnd_pure]
  unfold r14Few_j1 r14Few_r10 few
  by_cases h : v.measures.length ≤ 60
  · rw [ifb_t' (by simp; omega), bnd_pure, List.take_of_length_le (by omega)]
    simp [h]
  · rw [ifb_f' (by simp; omega), bnd_pure]
    simp [h]
end Go.Proofs.YtjfkfkjkbgiciaaDoor
