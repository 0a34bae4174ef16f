/-
  The evaluator, the printed walks and the plain laws, part 2 of 8.
-/
import Derived.Test.YtjfkfkjkbgiciaaDoorX1
import Derived.OrdersIn
import Derived.TacticsIn
import Derived.RangeFuncCalls
import Derived.Sort.LoopGhostIn
import Derived.Maps.RangeRun
import Derived.Laws.IdiomStrings
import Derived.MapKept
import Derived.Laws.OwnMore
set_option linter.all false
set_option linter.unnecessarySimpa false
set_option linter.deprecated false
set_option linter.unusedVariables false
set_option linter.unusedSimpArgs false
set_option linter.unusedSectionVars false
namespace Go.Eva
open Go Go.RowKit
inductive TD where
  | prim
  | intk (k : IntKind)
  | string
  | slice (e : TypeId)
  | struct (fs : List (Nat × TypeId))
  | array (n : Nat) (e : TypeId)
  | map (k v : TypeId)
  deriving DecidableEq, Inhabited
structure TI where
  size : Nat
  bytes : Nat
  zero : List D
  desc : TD
def TD.agg : TD → Bool
  | .struct _ => true
  | .array _ _ => true
  | _ => false
abbrev TEnv := TypeId → Option TI
abbrev CEnv := FuncId → List D → Option (D × Prop)
structure FR where
  t : T
  l : List AO
  ob : Prop
abbrev FEnv := FuncId → List T → List AO → Option FR
def mkD (agg : Bool) (cs : List D) : D := if agg then .agg cs else cs.headD .nilp
inductive Eff where
  | none
  | new (o : AO)
  | upd (l : List AO)
structure R where
  t : T
  eff : Eff
  ob : Prop
def R.ok (t : T) : R := ⟨t, .none, True⟩
def R.bad : R := ⟨.undef, .none, False⟩
def zeroCellD : Value → D → Bool
  | .bool b, .bool c => b == c
  | .int k n, .int k' n' => k == k' && n == n'
  | .string s, .str s' => s.data == s'.data
  | .slice none 0 0, .slice _ [] => true
  | .pointer none, .nilp => true
  | .map none, .map [] [] => true
  | .nilFunc, .nilfn => true
  | .nilIface, .nilif => true
  | _, _ => false
def constT : Value → T
  | .bool b => .d (.bool b)
  | .int k n => .d (.int k n)
  | .string s => .d (.str s)
  | .slice none 0 0 => .nils 0
  | .pointer none => .d .nilp
  | .map none => .d (.map [] [])
  | .nilFunc => .d .nilfn
  | .nilIface => .d .nilif
  | _ => .undef
def evT [Drw] (s : Tm) : Operand → T
  | .tmp t => get s t
  | .const v => constT v
  | .func f => .d (.fn f)
  | .global g => match Drw.dat g with | some d => .eptr d.cells.length [d] 0 0 | none => .undef
structure St where
  t : Tm
  l : List AO
def toD1 (l : List AO) : T → Option (D × List AO)
  | .d x => some (x, l)
  | .nils s => some (.slice s [], l)
  | .row id => match l[id]? with
    | some (.frow _ s els) => some (.slice s els, l)
    | some (.row e s els) => some (.slice s els, l.set id (.frow e s els))
    | _ => none
  | .map id => match l[id]? with
    | some (.fmap ks vs) => some (.map ks vs, l)
    | some (.map ks vs) => some (.map ks vs, l.set id (.fmap ks vs))
    | _ => none
  | _ => none
def argsD1 : List AO → List T → Option (List D × List AO)
  | l, [] => some ([], l)
  | l, t :: ts => match toD1 l t with
    | none => none
    | some (x, l') => match argsD1 l' ts with
      | none => none
      | some (xs, l'') => some (x :: xs, l'')
def quietT1 (l : List AO) : T → Bool
  | .d _ => true
  | .nils _ => true
  | .row id => match l[id]? with | some (.frow ..) => true | _ => false
  | .map id => match l[id]? with | some (.fmap ..) => true | _ => false
  | _ => false
def toD (l : List AO) (t : T) : Option (D × List AO) := match t with
  | .agg ts => (match argsD1 l ts with
    | some (ds, l') => some (.agg ds, l')
    | none => none)
  | t => toD1 l t
def argsD : List AO → List T → Option (List D × List AO)
  | l, [] => some ([], l)
  | l, t :: ts => match toD l t with
    | none => none
    | some (x, l') => match argsD l' ts with
      | none => none
      | some (xs, l'') => some (x :: xs, l'')
def quietT (l : List AO) (t : T) : Bool := match t with
  | .agg ts => ts.all (quietT1 l)
  | t => quietT1 l t
def arith (k : IntKind) (n : Int) : D × Prop :=
  match k with
  | .i64 => (.int .i64 n, -9223372036854775808 ≤ n ∧ n ≤ 9223372036854775807)
  | k => (.int k (k.wrap n), True)
mutual
def beqD : D → D → Bool
  | .bool a, .bool b => a == b
  | .int _ a, .int _ b => a == b
  | .str a, .str b => a == b
  | .agg xs, .agg ys => beqDs xs ys
  | _, _ => false
def beqDs : List D → List D → Bool
  | [], [] => true
  | x :: xs, y :: ys => beqD x y && beqDs xs ys
  | _, _ => false
end
def scalarD : D → Bool
  | .bool _ | .int _ _ | .str _ => true
  | _ => false
inductive Lf where
  | bool
  | int (k : IntKind)
  | str
  deriving DecidableEq
def lfOk : Lf → D → Bool
  | .bool, .bool _ => true
  | .int k, .int k' _ => k == k'
  | .str, .str _ => true
  | _, _ => false
def lfsOk : List Lf → List D → Bool
  | [], [] => true
  | x :: xs, d :: ds => lfOk x d && lfsOk xs ds
  | _, _ => false
def binD (okEq : TypeId → Option (List Lf)) (op : BinOp) (ty : TypeId) : D → D → Option (D × Prop)
  | .int k a, .int k' b =>
    if k ≠ k' then none else
    match op with
    | .add => some ((arith k (a + b)).1, (arith k (a + b)).2)
    | .sub => some ((arith k (a - b)).1, (arith k (a - b)).2)
    | .mul => some ((arith k (a * b)).1, (arith k (a * b)).2)
    | .quo => (match k with | .i64 => some (.int .i64 (a.tdiv b), b ≠ 0 ∧ -9223372036854775808 ≤ a.tdiv b ∧ a.tdiv b ≤ 9223372036854775807) | _ => none)
    | .rem => some (.int k (a.tmod b), b ≠ 0)
    | .eql => some (.bool (decide (a = b)), True)
    | .neq => some (.bool (!decide (a = b)), True)
    | .lss => some (.bool (decide (a < b)), True)
    | .leq => some (.bool (decide (a ≤ b)), True)
    | .gtr => some (.bool (decide (b < a)), True)
    | .geq => some (.bool (decide (b ≤ a)), True)
    | _ => none
  | .bool a, .bool b => match op with
    | .eql => if okEq ty = some [.bool] then some (.bool (a == b), True) else none
    | .neq => if okEq ty = some [.bool] then some (.bool (!(a == b)), True) else none
    | _ => none
  | .str a, .str b => match op with
    | .eql => some (.bool (a == b), True)
    | .neq => some (.bool (!(a == b)), True)
    | .add => some (.str (a ++ b), (a.size : Int) + (b.size : Int) ≤ 9223372036854775807)
    | _ => none
  | .agg xs, .agg ys => match op with
    | .eql => (match okEq ty with | some ls => if ls = [.bool] then none else some (.bool (beqDs xs ys), lfsOk ls xs = true ∧ lfsOk ls ys = true) | none => none)
    | .neq => (match okEq ty with | some ls => if ls = [.bool] then none else some (.bool (!(beqDs xs ys)), lfsOk ls xs = true ∧ lfsOk ls ys = true) | none => none)
    | _ => none
  | _, _ => none
def unD (op : UnOp) : D → Option (D × Prop)
  | .bool b => match op with | .not => some (.bool (!b), True) | _ => none
  | .int k n => match op with | .neg => some ((arith k (0 - n)).1, (arith k (0 - n)).2) | _ => none
  | _ => none
def ofD : Option (D × Prop) → R
  | some (x, ob) => ⟨.d x, .none, ob⟩
  | none => .bad
def cellsT : T → List T
  | .d x => x.cells.map .d
  | .agg ts => ts
  | t => [t]
def T.oneT : T → Bool
  | .d x => x.one
  | .tup _ => false
  | .cond _ _ => false
  | .agg _ => false
  | .undef => false
  | _ => true
def unD1 : T → Option D
  | .d x => some x
  | .nils s => some (.slice s [])
  | _ => none
def dataT : T → Option D
  | .d x => some x
  | _ => none
def mkT (agg : Bool) (cs : List T) : T :=
  if agg then (match cs.mapM dataT with | some ds => .d (.agg ds) | none => .agg cs) else cs.headD .undef
def zeroT : D → T
  | .slice s [] => .nils s
  | x => .d x
def unbox : T → T
  | .d (.box d) => .eptr d.cells.length [d] 0 0
  | t => t
def cloT (g : FuncId) (ts : List T) : T := match ts.mapM dataT with
  | some ds => .d (.clo g ds)
  | none => .clo g ts
def setAt {α : Type} (l : List α) (off : Nat) (xs : List α) : List α := l.take off ++ xs ++ l.drop (off + xs.length)
def sizeE (E : TEnv) (t : TypeId) : Nat := ((E t).map TI.size).getD 0
def fillT (place : Nat → Option (Nat × Nat)) (cells : List T) : List (Nat × T) → Option (List T)
  | [] => some cells
  | (i, t) :: rest => match place i with
    | some (off, size) => if (cellsT t).length = size ∧ off + size ≤ cells.length ∧ (cellsT t).all T.oneT = true then fillT place (setAt cells off (cellsT t)) rest else none
    | none => none
def placeS (E : TEnv) (fs : List (Nat × TypeId)) (i : Nat) : Option (Nat × Nat) := (fs[i]?).map fun f => (f.1, sizeE E f.2)
def elAt (els : List D) (k : Nat) : D := (els[k]?).getD .nilp
def isAggD : D → Bool
  | .agg _ => true
  | _ => false
def loadEl (i : TI) (size : Nat) (els : List D) (k off : Nat) : R :=
  if size = i.size ∧ off = 0 then ⟨.d (elAt els k), .none, k < els.length ∧ isAggD (elAt els k) = i.desc.agg⟩
  else ⟨.d (mkD i.desc.agg (((elAt els k).cells.drop off).take i.size)), .none, k < els.length ∧ off + i.size ≤ size⟩
def loadAs (E : TEnv) (ty : TypeId) (l : List AO) : T → R
  | .ptr id off => match E ty, l[id]? with
    | some i, some (.var _ cs) => if off + i.size ≤ cs.length then .ok (mkT i.desc.agg ((cs.drop off).take i.size)) else .bad
    | _, _ => .bad
  | .eptr size els k off => match E ty with
    | some i => loadEl i size els k off
    | none => .bad
  | .rptr id k off => match E ty, l[id]? with
    | some i, some (.row _ size els) | some i, some (.frow _ size els) => loadEl i size els k off
    | _, _ => .bad
  | _ => .bad
def storeAs (l : List AO) : T → T → R
  | .ptr id off, x => match l[id]? with
    | some (.var ty cs) => if off + (cellsT x).length ≤ cs.length then ⟨.undef, .upd (l.set id (.var ty (setAt cs off (cellsT x)))), ((cellsT x).all T.oneT) = true⟩ else .bad
    | _ => .bad
  | .rptr id k 0, .d x => match l[id]? with
    | some (.row e size els) => ⟨.undef, .upd (l.set id (.row e size (els.set k x))), x.cells.length = size ∧ x.cells.all D.one = true ∧ k < els.length⟩
    | _ => .bad
  | _, _ => .bad
def fieldP (E : TEnv) (s : TypeId) (f : Nat) : T → R
  | .ptr id off => match E s with | some ⟨_, _, _, .struct fs⟩ => (match fs[f]? with | some p => if 0 < sizeE E p.2 then .ok (.ptr id (off + p.1)) else .bad | none => .bad) | _ => .bad
  | .eptr size els k off => match E s with | some ⟨_, _, _, .struct fs⟩ => (match fs[f]? with | some p => if 0 < sizeE E p.2 then .ok (.eptr size els k (off + p.1)) else .bad | none => .bad) | _ => .bad
  | .rptr id k off => match E s with | some ⟨_, _, _, .struct fs⟩ => (match fs[f]? with | some p => if 0 < sizeE E p.2 then .ok (.rptr id k (off + p.1)) else .bad | none => .bad) | _ => .bad
  | _ => .bad
def fieldV (E : TEnv) (s : TypeId) (f : Nat) : T → R
  | .d (.agg cs) => match E s with
    | some ⟨_, _, _, .struct fs⟩ => (match fs[f]? with
      | some p => (match E p.2 with
        | some i => if p.1 + i.size ≤ cs.length ∧ 0 < i.size then .ok (.d (mkD i.desc.agg ((cs.drop p.1).take i.size))) else .bad
        | none => .bad)
      | none => .bad)
    | _ => .bad
  | _ => .bad
def intOfT : T → Option (IntKind × Int)
  | .d (.int k n) => some (k, n)
  | _ => none
def indexP (E : TEnv) (t : TypeId) (l : List AO) (x i : T) : R :=
  match E t, intOfT i with
  | some ⟨_, _, _, .slice e⟩, some (_, n) =>
    (match x with
    | .d (.slice size els) => if size = sizeE E e ∧ 0 < size then ⟨.eptr size els n.toNat 0, .none, 0 ≤ n ∧ n < els.length⟩ else .bad
    | .row id => (match l[id]? with
      | some (.row _ size els) | some (.frow _ size els) => if size = sizeE E e ∧ 0 < size then ⟨.rptr id n.toNat 0, .none, 0 ≤ n ∧ n < els.length⟩ else .bad
      | _ => .bad)
    | _ => .bad)
  | some ⟨_, _, _, .array len e⟩, some (_, n) =>
    (match x with
    | .eptr size els k off => if (E e).isSome = true then ⟨.eptr size els k (off + n.toNat * sizeE E e), .none, 0 ≤ n ∧ n < len⟩ else .bad
    | _ => .bad)
  | _, _ => .bad
def mapOf (l : List AO) : T → Option (List D × List D)
  | .d (.map ks vs) => some (ks, vs)
  | .map id => match l[id]? with
    | some (.map ks vs) | some (.fmap ks vs) => some (ks, vs)
    | _ => none
  | _ => none
def lenT (E : TEnv) (t : TypeId) (l : List AO) (x : T) : R :=
  match E t with
  | some ⟨_, _, _, .string⟩ => (match x with | .d (.str s) => .ok (.d (.int .i64 s.size)) | _ => .bad)
  | some ⟨_, _, _, .slice _⟩ => (match x with
    | .d (.slice _ els) => .ok (.d (.int .i64 els.length))
    | .nils _ => .ok (.d (.int .i64 0))
    | .row id => (match l[id]? with
      | some (.row _ _ els) | some (.frow _ _ els) => .ok (.d (.int .i64 els.length))
      | _ => .bad)
    | _ => .bad)
  | some ⟨_, _, _, .map _ _⟩ => (match mapOf l x with | some (ks, _) => .ok (.d (.int .i64 ks.length)) | none => .bad)
  | _ => .bad
def sliceT (x : T) (lo hi : Option T) : R :=
  match x with
  | .d (.slice size els) =>
    (match lo, hi with
    | none, none => .ok x
    | some a, none => (match intOfT a with | some (_, n) => ⟨.d (.slice size (els.drop n.toNat)), .none, 0 ≤ n ∧ n ≤ els.length⟩ | none => .bad)
    | none, some b => (match intOfT b with | some (_, n) => ⟨.d (.slice size (els.take n.toNat)), .none, 0 ≤ n ∧ n ≤ els.length⟩ | none => .bad)
    | some a, some b => (match intOfT a, intOfT b with
      | some (_, n), some (_, h) => ⟨.d (.slice size ((els.take h.toNat).drop n.toNat)), .none, 0 ≤ n ∧ n ≤ h ∧ h ≤ els.length⟩
      | _, _ => .bad))
  | _ => .bad
def subO (E : TEnv) (e : TypeId) (l : List AO) (id : Nat) (lo hi : Option T) : R :=
  match l[id]? with
  | some (.row _ size els) => if size = sizeE E e ∧ (E e).isSome = true then
      (match lo, hi with
      | some a, none => (match intOfT a with | some (_, n) => ⟨.sub id n.toNat els.length, .upd l, 0 ≤ n ∧ n ≤ els.length⟩ | none => .bad)
      | none, some b => (match intOfT b with | some (_, n) => ⟨.sub id 0 n.toNat, .upd l, 0 ≤ n ∧ n ≤ els.length⟩ | none => .bad)
      | _, _ => .bad) else .bad
  | _ => .bad
def clearT (E : TEnv) (t : TypeId) (l : List AO) (x : T) : R :=
  match E t, x with
  | some ⟨_, _, _, .slice e⟩, .sub id lo hi => (match E e, l[id]? with
    | some i, some (.row e' size els) => if size = i.size ∧ hi = els.length ∧ 0 < size then ⟨.d (.tup []), .upd (l.set id (.row e' size (els.take lo ++ List.replicate (hi - lo) (mkD i.desc.agg i.zero)))), True⟩ else .bad
    | _, _ => .bad)
  | _, _ => .bad
def makeT (E : TEnv) (t : TypeId) (l : List AO) (nid : Nat) (a b : T) : R :=
  match E t, intOfT a, intOfT b with
  | some ⟨_, _, _, .slice e⟩, some (_, n), some (_, c) => (match E e with
    | some i => if 0 < i.size then ⟨.row nid, .upd (l ++ [.row e i.size (List.replicate n.toNat (mkD i.desc.agg i.zero))]), 0 ≤ n ∧ c = n ∧ n * i.bytes ≤ 140737488355328 ∧ n ≤ 9223372036854775807⟩ else .bad
    | none => .bad)
  | _, _, _ => .bad
def appendT (E : TEnv) (t : TypeId) (l : List AO) (nid : Nat) (s x : T) : R :=
  match E t with
  | some ⟨_, _, _, .slice e⟩ => (match E e with
    | some i =>
      (match toD l x with
      | some (.slice sx new, l1) => if (sx = i.size ∨ new.isEmpty) ∧ 0 < i.size then
          (match s with
          | .nils _ => ⟨.row nid, .upd (l1 ++ [.row e i.size new]), new.length * i.bytes ≤ 140737488355328 ∧ new.length ≤ 9223372036854775807⟩
          | .row id => (match l1[id]? with
            | some (.row e' size els) => if e' = e ∧ size = i.size ∧ nid = l1.length then ⟨.row nid, .upd (l1.set id .dead ++ [.row e size (els ++ new)]), (els.length + new.length) * i.bytes ≤ 140737488355328 ∧ els.length + new.length ≤ 9223372036854775807⟩ else .bad
            | _ => .bad)
          | _ => .bad) else .bad
      | _ => .bad)
    | none => .bad)
  | _ => .bad
def callD (C : CEnv) (f : FuncId) (l : List AO) (ts : List T) : R :=
  match argsD l ts with
  | some (ds, l') => (match C f ds with
    | some (x, ob) => ⟨.d x, if ts.all (quietT l) then .none else .upd l', ob⟩
    | none => .bad)
  | none => .bad
def pickT (c a b : T) : R :=
  match c with
  | .d (.bool c) =>
    let f : Bool → T → Option (Bool × Prop) := fun want t => match t with
      | .d (.bool x) => some (x, True)
      | .cond pc (.d (.bool x)) => some (x, c = want → holds pc)
      | _ => none
    (match f true a, f false b with
    | some (x, p), some (y, q) => ⟨.d (.bool (if c then x else y)), .none, p ∧ q⟩
    | some (x, p), none => ⟨.d (.bool x), .none, c = true ∧ p⟩
    | none, some (y, q) => ⟨.d (.bool y), .none, c = false ∧ q⟩
    | none, none => .bad)
  | _ => .bad
def elemSize (E : TEnv) (t : TypeId) : Nat := match E t with | some ⟨_, _, _, .slice e⟩ => sizeE E e | _ => 0
def typed (E : TEnv) (t : TypeId) : T → T
  | .nils _ => .nils (elemSize E t)
  | x => x
def typedAll (E : TEnv) : List TypeId → List T → List T
  | t :: ts, x :: xs => typed E t x :: typedAll E ts xs
  | _, xs => xs
structure Env where
  E : TEnv
  C : CEnv
  okEq : TypeId → Option (List Lf)
  F : FEnv := fun _ _ _ => none
  P : Program
  inl : FuncId → Bool := fun _ => false
  /-- Parts of own rows stay the call's own. -/
  sub : Bool := false
def callT (V : Env) (g : FuncId) (l : List AO) (ts : List T) : R :=
  match V.F g ts l with
  | some ⟨t, l', ob⟩ => ⟨t, .upd l', ob⟩
  | none => callD V.C g l ts
def keyIdx (n : Int) : List D → Nat → Option Nat
  | [], _ => none
  | .int _ a :: r, i => if n = a then some i else keyIdx n r (i + 1)
  | _ :: _, _ => none
def keysInt (k : IntKind) (ks : List D) : Bool := ks.all fun d => match d with | .int k' _ => k' == k | _ => false
def mapTy (E : TEnv) (t : TypeId) : Option (IntKind × TI) := match E t with
  | some ⟨_, _, _, .map kt e⟩ => match E kt, E e with
    | some ⟨_, _, _, .intk kk⟩, some i => some (kk, i)
    | _, _ => none
  | _ => none
def lookT (E : TEnv) (t : TypeId) (l : List AO) (x k : T) (ok : Bool) : R :=
  match mapTy E t, mapOf l x, intOfT k with
  | some (kk, i), some (ks, vs), some (kk', n) =>
    if kk = kk' then
      match keyIdx n ks 0 with
      | some j => ⟨if ok then .d (.tup [elAt vs j, .bool true]) else .d (elAt vs j), .none, keysInt kk ks = true⟩
      | none => ⟨if ok then .d (.tup [mkD i.desc.agg i.zero, .bool false]) else .d (mkD i.desc.agg i.zero), .none, keysInt kk ks = true⟩
    else .bad
  | _, _, _ => .bad
def mapPutT (E : TEnv) (t : TypeId) (l : List AO) (x k v : T) : R :=
  match mapTy E t, x, intOfT k, unD1 v with
  | some (kk, _), .map id, some (kk', n), some d =>
    if kk = kk' then
      match l[id]? with
      | some (.map ks vs) => ⟨.undef, .upd (l.set id (match keyIdx n ks 0 with | some j => .map ks (vs.set j d) | none => .map (ks ++ [.int kk n]) (vs ++ [d]))), keysInt kk ks = true⟩
      | _ => .bad
    else .bad
  | _, _, _, _ => .bad
def mapDelT (E : TEnv) (t : TypeId) (l : List AO) (x k : T) : R :=
  match mapTy E t, x, intOfT k with
  | some (kk, _), .map id, some (kk', n) =>
    if kk = kk' then
      match l[id]? with
      | some (.map ks vs) => ⟨.d (.tup []), .upd (l.set id (match keyIdx n ks 0 with | some j => .map (ks.eraseIdx j) (vs.eraseIdx j) | none => .map ks vs)), keysInt kk ks = true⟩
      | _ => .bad
    else .bad
  | _, _, _ => .bad
def byteAt (s : ByteArray) (n : Nat) : Int := ((s[n]?).getD 0).toNat
def indexS (E : TEnv) (t : TypeId) (x i : T) : R :=
  match E t, x, intOfT i with
  | some ⟨_, _, _, .string⟩, .d (.str s), some (_, n) => ⟨.d (.int .u8 (byteAt s n.toNat)), .none, 0 ≤ n ∧ n < s.size⟩
  | _, _, _ => .bad
def runeD : Value → D
  | .int k n => .int k n
  | _ => .nilp
def runesD (s : ByteArray) : List D := (Conv.runesFrom s s.size 0 #[]).toList.map runeD
def convT (E : TEnv) (src t : TypeId) (x : T) : R :=
  match E src, E t, x with
  | some ⟨_, _, _, .intk _⟩, some ⟨_, _, _, .intk k⟩, .d (.int _ n) => .ok (.d (.int k (k.wrap n)))
  | some ⟨_, _, _, .string⟩, some ⟨_, _, _, .slice e⟩, .d (.str s) => (match E e with
    | some ⟨1, _, _, .intk .i32⟩ => ⟨.d (.slice 1 (runesD s)), .none, s.size ≤ 16777216⟩
    | _ => .bad)
  | _, _, _ => .bad
def rangeT (E : TEnv) (t : TypeId) (l : List AO) (nid : Nat) (x : T) : R := match E t, x with
  | some ⟨_, _, _, .map _ _⟩, .map id => (match toD l (.map id) with
    | some (.map ks vs, l') => ⟨.ptr nid 0, .upd (l' ++ [.iter ks vs []]), True⟩
    | _ => .bad)
  | some ⟨_, _, _, .map _ _⟩, .d (.map ks vs) => ⟨.ptr nid 0, .upd (l ++ [.iter ks vs []]), True⟩
  | _, _ => .bad
def entryT (l : List AO) (x : T) : R := match x with
  | .ptr id 0 => (match l[id]? with
    | some (.iter ks vs done) => (match done.getLast? with
      | some i => (match ks[i]?, vs[i]? with | some k, some v => .ok (.d (.tup [k, v])) | _, _ => .bad)
      | none => .bad)
    | _ => .bad)
  | _ => .bad
def evalOp (V : Env) (ρ : Operand → T) (l : List AO) (nid : Nat) (o : Oper) : R :=
  match o.op with
  | .move x | .assign x => .ok (typed V.E o.type (ρ x))
  | .pick c a b => pickT (ρ c) (ρ a) (ρ b)
  | .box e x => ⟨.ptr nid 0, .new (.var e (cellsT (ρ x))), ((cellsT (ρ x)).all T.oneT) = true⟩
  | .alloc e => (match V.E e with | some i => ⟨.ptr nid 0, .new (.var e (i.zero.map zeroT)), True⟩ | none => .bad)
  | .load t a => loadAs V.E t l (unbox (ρ a))
  | .store t a x => if (cellsT (ρ x)).length = sizeE V.E t ∧ 0 < sizeE V.E t then storeAs l (ρ a) (ρ x) else .bad
  | .fieldAddr s x f => fieldP V.E s f (unbox (ρ x))
  | .field s x f => fieldV V.E s f (ρ x)
  | .binOp op ty x y _ => (match ρ x, ρ y with | .d a, .d b => ofD (binD V.okEq op ty a b) | _, _ => .bad)
  | .unOp op _ x => (match ρ x with | .d a => ofD (unD op a) | _ => .bad)
  | .indexAddr t x i => indexP V.E t l (unbox (ρ x)) (ρ i)
  | .slice t x lo hi none => (match V.E t, ρ x with
    | some ⟨_, _, _, .slice e⟩, .d (.slice size els) => if size = sizeE V.E e ∧ (V.E e).isSome = true then sliceT (.d (.slice size els)) (lo.map ρ) (hi.map ρ) else .bad
    | some ⟨_, _, _, .slice e⟩, .row id => if V.sub = true then subO V.E e l id (lo.map ρ) (hi.map ρ) else (match toD l (.row id) with
      | some (.slice size els, l') => if size = sizeE V.E e ∧ (V.E e).isSome = true then ⟨(sliceT (.d (.slice size els)) (lo.map ρ) (hi.map ρ)).t, .upd l', (sliceT (.d (.slice size els)) (lo.map ρ) (hi.map ρ)).ob⟩ else .bad
      | _ => .bad)
    | _, _ => .bad)
  | .build t parts => (match V.E t with
    | some ⟨_, _, z, .struct fs⟩ => if fs.all (fun f => (V.E f.2).isSome) = true then (match fillT (placeS V.E fs) (z.map zeroT) (parts.toList.map fun p => (p.1, ρ p.2)) with | some cs => .ok (mkT true cs) | none => .bad) else .bad
    | _ => .bad)
  | .buildSlice t len parts => (match V.E t with
    | some ⟨_, _, _, .slice e⟩ =>
      if (V.E e).isSome = true ∧ 0 < sizeE V.E e then
        (if len = 0 then ⟨.row nid, .upd (l ++ [.row e (sizeE V.E e) []]), parts.toList.isEmpty = true⟩
        else (match parts.toList.mapM (fun p => unD1 (ρ p.2)) with
          | some ds => if parts.toList.map (·.1) = List.range len ∧ len * sizeE V.E e ≤ 16777216 ∧ ds.all (fun d => d.cells.length == sizeE V.E e && d.cells.all D.one) = true then .ok (.d (.slice (sizeE V.E e) ds)) else .bad
          | none => (match argsD l (parts.toList.map fun p => ρ p.2) with
            | some (ds, l') => if parts.toList.map (·.1) = List.range len ∧ len * sizeE V.E e ≤ 16777216 ∧ ds.all (fun d => d.cells.length == sizeE V.E e && d.cells.all D.one) = true then ⟨.d (.slice (sizeE V.E e) ds), .upd l', True⟩ else .bad
            | none => .bad)))
      else .bad
    | _ => .bad)
  | .extract x i => (match ρ x with
    | .d (.tup ds) => (match ds[i]? with | some d => .ok (.d d) | none => .bad)
    | .tup ts => (match ts[i]? with | some t => .ok t | none => .bad)
    | _ => .bad)
  | .call c => (match c.callee with
    | .value f => (match ρ f with
      | .d (.fn g) => callT V g l (typedAll V.E c.argTypes.toList (c.args.toList.map ρ))
      | .d (.clo g ds) => callT V g l (typedAll V.E c.argTypes.toList (c.args.toList.map ρ) ++ ds.map .d)
      | _ => .bad)
    | .builtin .len => (match c.args.toList, c.argTypes.toList with | [x], [t] => lenT V.E t l (ρ x) | _, _ => .bad)
    | .builtin .append => (match c.args.toList, c.argTypes.toList with
      | [s, x], [t, t'] => if t = t' then appendT V.E t l nid (ρ s) (ρ x) else .bad
      | _, _ => .bad)
    | .builtin .clear => (match c.args.toList, c.argTypes.toList with | [x], [t] => clearT V.E t l (ρ x) | _, _ => .bad)
    | .builtin .delete => (match c.args.toList, c.argTypes.toList with | [x, k], [t, _] => mapDelT V.E t l (ρ x) (ρ k) | _, _ => .bad)
    | .builtin .max => (match c.args.toList.map ρ with | [.d (.int k a), .d (.int k' b)] => if k = k' then .ok (.d (.int k (max a b))) else .bad | _ => .bad)
    | .builtin .min => (match c.args.toList.map ρ with | [.d (.int k a), .d (.int k' b)] => if k = k' then .ok (.d (.int k (min a b))) else .bad | _ => .bad)
    | _ => .bad)
  | .makeMap _ none => ⟨.map nid, .upd (l ++ [.map [] []]), True⟩
  | .mapUpdate t m k x | .insert t m k x => mapPutT V.E t l (ρ m) (ρ k) (ρ x)
  | .lookup t x k ok => lookT V.E t l (ρ x) (ρ k) ok
  | .index t x i => indexS V.E t (ρ x) (ρ i)
  | .convert src t x => convT V.E src t (ρ x)
  | .makeFunc (.func g) first caps => if first.isEmpty = true then .ok (cloT g (caps.toList.map ρ)) else .bad
  | .range t x => rangeT V.E t l nid (ρ x)
  | .entry x => entryT l (ρ x)
  | .makeSlice t a b => makeT V.E t l nid (ρ a) (ρ b)
  | _ => .bad
end Go.Eva
namespace Go.Eva
open Go Go.RowKit
variable [Drw]
theorem own_ownBlock {v : Value} {b : Nat} (h : v.ownBlock = some b) : own v = some b := by
  cases v with
  | slice a n c => cases a with
    | none => simp [Value.ownBlock] at h
    | some a => simpa [Value.ownBlock, own] using h
  | _ => simp [Value.ownBlock] at h
theorem ownsRow_keep {B : Nat} {w w' : World} {e : TypeId} {size n : Nat} {v : Value} {xs : List Value} (h : w.ownsRow B e size v n xs) (hw : ∀ b, own v = some b → w'.heap[b]? = w.heap[b]?) : w'.ownsRow B e size v n xs := by
  refine ⟨h.1, ?_⟩
  rcases h.2 with hn | ⟨g, cap, cur, rfl, hb, hg, rest⟩
  · exact .inl hn
  · exact .inr ⟨g, cap, cur, rfl, hb, (hw g rfl).trans hg, rest⟩
theorem SatI.ndfRow {w : World} {I : Imm} {B : Nat} {e : TypeId} {size n : Nat} {v : Value} {xs : List Value} {b : Nat} (h : SatI w I) (k : w.ownsRow B e size v n xs) (hb : own v = some b) : ¬ I.df b := by
  rcases k.2 with ⟨rfl, _⟩ | ⟨g, cap, cur, rfl, _, hg, _⟩
  · cases hb
  · simp only [own, Option.some.injEq] at hb
    subst hb
    exact h.ndf hg (by simp)
theorem ObjOk.keep {B : Nat} {w w' : World} {I J : Imm} {m m' : Nat → Value} {l l' : List AO} {v : Value} {o : AO} (hle : Le I m l J m' l') (hw : ∀ b, own v = some b → w'.heap[b]? = w.heap[b]?)
    (hI : ∀ b, own v = some b → J.cell b = I.cell b ∧ J.mp b = I.mp b) (h : ObjOk B w I m l v o) : ObjOk B w' J m' l' v o := by
  cases o with
  | dead => trivial
  | var ty cs =>
    obtain ⟨b, vs, rfl, h1, h2, h3, h4, h5⟩ := h
    refine ⟨b, vs, rfl, h1, (hw b rfl).trans h2, h3, fun i x t hx ht => ⟨(h4 i x t hx ht).1.mono hle, (h4 i x t hx ht).2⟩, ?_⟩
    obtain ⟨e1, e2⟩ := hI b rfl
    exact ⟨fun o => by rw [e1]; exact h5.1 o, e2.trans h5.2⟩
  | row e size els =>
    obtain ⟨xs, h1, h2, h3, h4⟩ := h
    refine ⟨xs, ownsRow_keep h1 hw, h2, fun j x y hx hy => (h3 j x y hx hy).mono hle.imm, fun b hb => ?_⟩
    obtain ⟨e1, e2⟩ := hI b hb
    exact ⟨fun o => by rw [e1]; exact (h4 b hb).1 o, e2.trans (h4 b hb).2⟩
  | frow e size els =>
    obtain ⟨xs, h1, h2, h3, h4⟩ := h
    refine ⟨xs, ownsRow_keep h1 hw, h2, fun j x y hx hy => (h3 j x y hx hy).mono hle.imm, fun b hb => ?_⟩
    obtain ⟨e1, e2⟩ := hI b hb
    obtain ⟨k1, k2, k3⟩ := h4 b hb
    exact ⟨e2.trans k1, fun j x hx => by rw [e1]; exact k2 j x hx, fun j hj => by rw [e1]; exact k3 j hj⟩
  | map ks vs =>
    obtain ⟨b, es, rfl, h1, h2, h3, h4, h5, h6, h7⟩ := h
    obtain ⟨e1, e2⟩ := hI b rfl
    exact ⟨b, es, rfl, h1, MapAt.to (hw b rfl) h2, h3, h4, fun i e d he hd => (h5 i e d he hd).mono hle.imm, fun i e d he hd => (h6 i e d he hd).mono hle.imm, fun o => by rw [e1]; exact h7.1 o, e2.trans h7.2⟩
  | fmap ks vs =>
    obtain ⟨b, es, rfl, h1, h2, h3, h4, h5, h6, h7, h8⟩ := h
    obtain ⟨e1, e2⟩ := hI b rfl
    exact ⟨b, es, rfl, h1, MapAt.to (hw b rfl) h2, h3, h4, fun i e d he hd => (h5 i e d he hd).mono hle.imm, fun i e d he hd => (h6 i e d he hd).mono hle.imm, fun o => by rw [e1]; exact h7 o, e2.trans h8⟩
  | iter ks vs done =>
    obtain ⟨b, mb, es, seen, rfl, h1, h2, h3, h4, h5, h6, h7, h8, h9⟩ := h
    obtain ⟨e1, e2⟩ := hI b rfl
    exact ⟨b, mb, es, seen, rfl, h1, (hw b rfl).trans h2, ⟨fun r hr => hle.imm.mp _ _ (h3.1 r hr), h3.2⟩, h4, h5, fun i e d he hd => (h6 i e d he hd).mono hle.imm, fun i e d he hd => (h7 i e d he hd).mono hle.imm, h8, fun o => by rw [e1]; exact h9.1 o, e2.trans h9.2⟩
  | frame base vals t => exact ⟨h.1, Nat.le_trans h.2.1 hle.len, fun k => (h.2.2 k).mono (hle.take base)⟩
  | loop base n ps asg body t st pend =>
    obtain ⟨b, r, rfl, h1, h2, h3, h4, h5, h6⟩ := h
    obtain ⟨e1, e2⟩ := hI b rfl
    exact ⟨b, r, rfl, h1, (hw b rfl).trans h2, h3, Nat.le_trans h4 hle.len, fun k => (h5 k).mono (hle.take base), fun o => by rw [e1]; exact h6.1 o, e2.trans h6.2⟩
theorem ObjOk.lt {B : Nat} {w : World} {I : Imm} {m : Nat → Value} {l : List AO} {v : Value} {o : AO} (h : ObjOk B w I m l v o) (ho : o ≠ .dead) {b : Nat} (hb : own v = some b) : b < w.heap.size ∧ B ≤ b := by
  cases o with
  | dead => exact absurd rfl ho
  | var ty cs =>
    obtain ⟨b', vs, rfl, h1, h2, _⟩ := h
    simp only [own, Option.some.injEq] at hb
    subst hb
    exact ⟨(Array.getElem?_eq_some_iff.1 h2).1, h1⟩
  | row e size els =>
    obtain ⟨xs, h1, _⟩ := h
    rcases h1.2 with ⟨rfl, _⟩ | ⟨g, cap, cur, rfl, hb', hg, _⟩
    · simp [own] at hb
    · simp only [own, Option.some.injEq] at hb
      subst hb
      exact ⟨(Array.getElem?_eq_some_iff.1 hg).1, hb'⟩
  | frow e size els =>
    obtain ⟨xs, h1, _⟩ := h
    rcases h1.2 with ⟨rfl, _⟩ | ⟨g, cap, cur, rfl, hb', hg, _⟩
    · simp [own] at hb
    · simp only [own, Option.some.injEq] at hb
      subst hb
      exact ⟨(Array.getElem?_eq_some_iff.1 hg).1, hb'⟩
  | map ks vs =>
    obtain ⟨b', es, rfl, h1, h2, _⟩ := h
    simp only [own, Option.some.injEq] at hb
    subst hb
    exact ⟨(Array.getElem?_eq_some_iff.1 h2.1).1, h1⟩
  | fmap ks vs =>
    obtain ⟨b', es, rfl, h1, h2, _⟩ := h
    simp only [own, Option.some.injEq] at hb
    subst hb
    exact ⟨(Array.getElem?_eq_some_iff.1 h2.1).1, h1⟩
  | iter ks vs done =>
    obtain ⟨b', mb, es, seen, rfl, h1, h2, _⟩ := h
    simp only [own, Option.some.injEq] at hb
    subst hb
    exact ⟨(Array.getElem?_eq_some_iff.1 h2).1, h1⟩
  | frame base vals t => rw [h.1] at hb; cases hb
  | loop base n ps asg body t st pend =>
    obtain ⟨b', r, rfl, h1, h2, _⟩ := h
    simp only [own, Option.some.injEq] at hb
    subst hb
    exact ⟨(Array.getElem?_eq_some_iff.1 h2).1, h1⟩
theorem ObjOk.ndf {B : Nat} {w : World} {I : Imm} {m : Nat → Value} {l : List AO} {v : Value} {o : AO} (h : ObjOk B w I m l v o) (hs : SatI w I) (ho : o ≠ .dead) {b : Nat} (hb : own v = some b) : ¬ I.df b := by
  cases o with
  | dead => exact absurd rfl ho
  | var ty cs =>
    obtain ⟨b', vs, rfl, h1, h2, _⟩ := h
    simp only [own, Option.some.injEq] at hb
    subst hb
    exact hs.ndf h2 (by simp)
  | row e size els => obtain ⟨xs, h1, _⟩ := h; exact hs.ndfRow h1 hb
  | frow e size els => obtain ⟨xs, h1, _⟩ := h; exact hs.ndfRow h1 hb
  | map ks vs =>
    obtain ⟨b', es, rfl, h1, h2, _⟩ := h
    simp only [own, Option.some.injEq] at hb
    subst hb
    exact hs.ndf h2.1 (by simp)
  | fmap ks vs =>
    obtain ⟨b', es, rfl, h1, h2, _⟩ := h
    simp only [own, Option.some.injEq] at hb
    subst hb
    exact hs.ndf h2.1 (by simp)
  | iter ks vs done =>
    obtain ⟨b', mb, es, seen, rfl, h1, h2, _⟩ := h
    simp only [own, Option.some.injEq] at hb
    subst hb
    exact hs.ndf h2 (by simp)
  | frame base vals t => rw [h.1] at hb; cases hb
  | loop base n ps asg body t st pend =>
    obtain ⟨b', r, rfl, h1, h2, _⟩ := h
    simp only [own, Option.some.injEq] at hb
    subst hb
    exact hs.ndf h2 (by simp)
theorem alive_iff {l : List AO} {id : Nat} : alive l id = true ↔ ∃ o, l[id]? = some o ∧ o ≠ .dead := by
  unfold alive isVar isRow
  cases h : l[id]? with
  | none => simp
  | some o => cases o <;> simp [AO.isVar, AO.isRow]
section
variable {w0 w w' : World} {I0 I J : Imm} {m : Nat → Value} {l : List AO}
theorem WRel.call (h : WRel w0 I0 w I m l) (hb : Bel w.heap.size w w') (he : ExtI w.heap.size I J) (hs : SatI w' J) : WRel w0 I0 w' J m l ∧ Le I m l J m l := by
  have hle : Le I m l J m l := ⟨he.le (fun b hd => h.sat.ltd hd), Nat.le_refl _, fun _ _ k => ⟨k, rfl⟩, fun _ _ k => ⟨k, rfl⟩, fun _ _ _ els _ k => ⟨els, k⟩⟩
  refine ⟨⟨h.below.trans (hb.mono h.below.size), hs, h.ext.trans he h.below.size, fun id o ho => ?_, h.sep⟩, hle⟩
  by_cases hd : o = .dead
  · subst hd; trivial
  · exact (h.obj id o ho).keep hle (fun b hb' => hb.block b ((h.obj id o ho).lt hd hb').1) (fun b hb' => ⟨he.cell b ((h.obj id o ho).lt hd hb').1, he.mp b ((h.obj id o ho).lt hd hb').1⟩)
def upd (m : Nat → Value) (id : Nat) (v : Value) : Nat → Value := fun k => if k = id then v else m k
theorem upd_same (m : Nat → Value) (id : Nat) (v : Value) : upd m id v id = v := by simp [upd]
theorem upd_ne (m : Nat → Value) {id k : Nat} (v : Value) (h : k ≠ id) : upd m id v k = m k := by simp [upd, h]
theorem Le.new {nid : Nat} {o : AO} {v : Value} (hn : l[nid]? = some .dead) (ho : o.isRow = false) : Le I m l I (upd m nid v) (l.set nid o) := by
  have hne : ∀ id, id ≠ nid → (l.set nid o)[id]? = l[id]? := fun id h => by rw [List.getElem?_set]; simp [Ne.symm h]
  have hlt : nid < l.length := (List.getElem?_eq_some_iff.1 hn).1
  have hat : (l.set nid o)[nid]? = some o := by rw [List.getElem?_set]; simp [hlt]
  refine ⟨.refl I, by simp, fun id hid hv => ?_, fun id hid hr => ?_, fun id e size els hid hh => ?_⟩
  · have : id ≠ nid := by rintro rfl; unfold isVar at hv; rw [hn] at hv; simp [AO.isVar] at hv
    refine ⟨?_, upd_ne m v this⟩
    unfold isVar; rw [hne id this]; exact hv
  · by_cases h : id = nid
    · subst h; unfold isRow at hr; rw [hat] at hr; simp [ho] at hr
    · refine ⟨?_, upd_ne m v h⟩
      unfold isRow at hr ⊢; rw [hne id h] at hr; exact hr
  · by_cases h : id = nid
    · subst h; rw [hat] at hh; rcases hh with hh | hh <;> (injection hh with hh; subst hh; simp [AO.isRow] at ho)
    · rw [hne id h] at hh; exact ⟨els, hh⟩
theorem WRel.alloc (h : WRel w0 I0 w I m l) (ob : Obj) {nid : Nat} {o : AO} {v : Value} (hn : l[nid]? = some .dead) (ho : o.isRow = false) (hv : own v = some w.heap.size)
    (hok : ObjOk w0.heap.size (w.alloc ob) I (upd m nid v) (l.set nid o) v o) : WRel w0 I0 (w.alloc ob) I (upd m nid v) (l.set nid o) := by
  have hle : Le I m l I (upd m nid v) (l.set nid o) := Le.new hn ho
  have hlt : nid < l.length := (List.getElem?_eq_some_iff.1 hn).1
  have hat : (l.set nid o)[nid]? = some o := by rw [List.getElem?_set]; simp [hlt]
  have hne : ∀ id, id ≠ nid → (l.set nid o)[id]? = l[id]? := fun id h => by rw [List.getElem?_set]; simp [Ne.symm h]
  have hold : ∀ id, id ≠ nid → alive (l.set nid o) id = true → ∀ b, own (m id) = some b → b < w.heap.size := by
    intro id hid ha b hb
    obtain ⟨o', ho', hd⟩ := alive_iff.1 ha
    rw [hne id hid] at ho'
    exact ((h.obj id o' ho').lt hd hb).1
  refine ⟨h.below.alloc h.below.size ob, ⟨fun b o' u hc => ?_, fun b es hc => ?_, fun b hd => (Below.heap_alloc w ob b (h.sat.ltd hd)).trans (h.sat.df b hd), h.sat.glob⟩, h.ext, fun id o' ho' => ?_, fun i j b hij hi hj hbi hbj => ?_⟩
  · rw [World.cell?_alloc_lt w ob _ (h.sat.lt hc)]; exact h.sat.cell b o' u hc
  · have hh := h.sat.mp b es hc
    exact MapAt.to (Below.heap_alloc w ob b (h.sat.ltm hc)) hh
  · by_cases hid : id = nid
    · subst hid; rw [hat] at ho'; injection ho' with ho'; subst ho'; rw [upd_same]; exact hok
    · rw [hne id hid] at ho'; rw [upd_ne m v hid]
      by_cases hd : o' = .dead
      · subst hd; trivial
      · exact (h.obj id o' ho').keep hle (fun b hb => Below.heap_alloc w ob b ((h.obj id o' ho').lt hd hb).1) (fun b _ => ⟨rfl, rfl⟩)
  · by_cases h1 : i = nid
    · subst h1; rw [upd_same] at hbi; rw [upd_ne m v (Ne.symm hij)] at hbj
      rw [hv] at hbi; injection hbi with hbi
      have := hold j (Ne.symm hij) hj b hbj; omega
    · by_cases h2 : j = nid
      · subst h2; rw [upd_same] at hbj; rw [upd_ne m v hij] at hbi
        rw [hv] at hbj; injection hbj with hbj
        have := hold i hij hi b hbi; omega
      · rw [upd_ne m v h1] at hbi; rw [upd_ne m v h2] at hbj
        refine h.sep i j b hij ?_ ?_ hbi hbj
        · obtain ⟨o', ho', hd⟩ := alive_iff.1 hi; rw [hne i h1] at ho'; exact alive_iff.2 ⟨o', ho', hd⟩
        · obtain ⟨o', ho', hd⟩ := alive_iff.1 hj; rw [hne j h2] at ho'; exact alive_iff.2 ⟨o', ho', hd⟩
theorem WRel.push (h : WRel w0 I0 w I m l) : WRel w0 I0 w I m (l ++ [.dead]) ∧ Le I m l I m (l ++ [.dead]) := by
  have hne : ∀ id, id < l.length → (l ++ [AO.dead])[id]? = l[id]? := fun id hid => List.getElem?_append_left hid
  have hde : ∀ (id : Nat) o, (l ++ [AO.dead])[id]? = some o → o = AO.dead ∨ l[id]? = some o := by
    intro id o ho
    rcases Nat.lt_trichotomy id l.length with hl | hl | hl
    · rw [hne id hl] at ho; exact .inr ho
    · subst hl; simp at ho; exact .inl ho.symm
    · rw [List.getElem?_eq_none (by simp; omega)] at ho; cases ho
  have hle : Le I m l I m (l ++ [.dead]) := by
    refine ⟨.refl I, by simp, fun id hid hv => ⟨?_, rfl⟩, fun id hid hr => ⟨?_, rfl⟩, fun id e size els hid hh => ⟨els, ?_⟩⟩
    · unfold isVar at hv ⊢; rw [hne id hid]; exact hv
    · unfold isRow at hr ⊢; rw [hne id hid] at hr; exact hr
    · rw [hne id hid] at hh; exact hh
  have hal : ∀ id, alive (l ++ [AO.dead]) id = true → alive l id = true := by
    intro id ha
    obtain ⟨o, ho, hd⟩ := alive_iff.1 ha
    rcases hde id o ho with he | he
    · exact absurd he hd
    · exact alive_iff.2 ⟨o, he, hd⟩
  refine ⟨⟨h.below, h.sat, h.ext, fun id o ho => ?_, fun i j b hij hi hj => h.sep i j b hij (hal i hi) (hal j hj)⟩, hle⟩
  rcases hde id o ho with rfl | he
  · trivial
  · exact (h.obj id o he).keep hle (fun _ _ => rfl) (fun _ _ => ⟨rfl, rfl⟩)
end
end Go.Eva
namespace Go.Eva
open Go Go.RowKit
variable [Drw]
def descOk (P : Program) (t : TypeId) : TD → Bool
  | .prim => match P.underlying t with | some (.struct _) | some (.array _ _) | none => false | _ => true
  | .intk k => match P.underlying t with | some (.int k') => k == k' | _ => false
  | .string => match P.underlying t with | some .string => true | _ => false
  | .slice e => match P.underlying t with | some (.slice e') => e == e' | _ => false
  | .struct fs => match P.underlying t with | some (.struct gs) => decide (fs = gs.toList.map fun f => (f.offset, f.type)) | _ => false
  | .array n e => match P.underlying t with | some (.array n' e') => n == n' && e == e' | _ => false
  | .map k e => match P.underlying t with | some (.map k' e') => k == k' && e == e' | _ => false
def zerosOk : List Value → List D → Bool
  | [], [] => true
  | v :: vs, d :: ds => zeroCellD v d && zerosOk vs ds
  | _, _ => false
def isAggV : Value → Bool
  | .agg _ => true
  | _ => false
def tiOk (P : Program) (t : TypeId) (i : TI) : Bool :=
  match P.info? t with
  | some x => x.size == i.size && x.bytes == i.bytes && (match x.zero with | some z => zerosOk z.cells.toList i.zero && (isAggV z == i.desc.agg) | none => false) && descOk P t i.desc && decide (i.zero.length = i.size)
  | none => false
def TOk (P : Program) (E : TEnv) : Prop := ∀ t i, E t = some i → tiOk P t i = true
def PureCon (P : Program) (f : FuncId) (ds : List D) (r : D) : Prop :=
  ∀ (w : World) (I : Imm) (vs : Array Value), SatI w I → vs.size = ds.length → (∀ (i : Nat) v d, vs[i]? = some v → ds[i]? = some d → Rd I v d) →
    Calls P f vs w fun e w' => ∃ v J, e = .returned v ∧ Bel w.heap.size w w' ∧ ExtI w.heap.size I J ∧ SatI w' J ∧ Rd J v r
def Enters (P : Program) (f : FuncId) : Prop := ∀ (args : Array Value) (w : World), (callFunc f args).run P w = .ok (.enter f args) w
def COk (P : Program) (C : CEnv) : Prop := ∀ f ds r ob, C f ds = some (r, ob) → ob → Enters P f ∧ PureCon P f ds r
def FCon (P : Program) (g : FuncId) (ts : List T) (l : List AO) (t : T) (l' : List AO) : Prop :=
  ∀ (w0 : World) (I0 : Imm) (w : World) (I : Imm) (m : Nat → Value) (args : Array Value), WRel w0 I0 w I m l → args.size = ts.length → (∀ (i : Nat) v x, args[i]? = some v → ts[i]? = some x → RdT I m l v x) →
    Calls P g args w fun e w' => ∃ v, e = .returned v ∧ ∃ J m', Le I m l J m' l' ∧ WRel w0 I0 w' J m' l' ∧ RdT J m' l' v t
def FOk (P : Program) (F : FEnv) : Prop := ∀ g ts l r, F g ts l = some r → r.ob → Enters P g ∧ FCon P g ts l r.t r.l
def SemC (P : Program) (g : FuncId) (ts : List T) (l : List AO) (K : T → List AO → Prop) : Prop :=
  Enters P g ∧ ∀ (w0 : World) (I0 : Imm) (w : World) (I : Imm) (m : Nat → Value) (args : Array Value) (vals : Nat → Value) (ft : Tm), WRel w0 I0 w I m l → args.size = ts.length → (∀ (i : Nat) v x, args[i]? = some v → ts[i]? = some x → RdT I m l v x) → (∀ k, RdT I m l (vals k) (get ft k)) →
    Calls P g args w fun e w' => ∃ v, e = .returned v ∧ ∃ t l' J m', K t l' ∧ WRel w0 I0 w' J m' l' ∧ RdT J m' l' v t ∧ (∀ b, I.df b → J.df b) ∧ ∀ k, RdT J m' l' (vals k) (get ft k)
theorem SemC.mono {P : Program} {g : FuncId} {ts : List T} {l : List AO} {K K' : T → List AO → Prop} (h : SemC P g ts l K) (hk : ∀ t l', K t l' → K' t l') : SemC P g ts l K' :=
  ⟨h.1, fun w0 I0 w I m args vals ft h1 h2 h3 h4 => (h.2 w0 I0 w I m args vals ft h1 h2 h3 h4).mono fun _ _ ⟨v, he, t, l', J, m', k1, k2⟩ => ⟨v, he, t, l', J, m', hk t l' k1, k2⟩⟩
def EqOk (P : Program) (okEq : TypeId → Option (List Lf)) : Prop := ∀ t ls, okEq t = some ls → ∀ (op : BinOp) (x y : Operand) (I : Imm) (u v : Value) (a b : D) (w : World), Rd I u a → Rd I v b →
  ((∃ p q, a = .bool p ∧ b = .bool q ∧ ls = [.bool]) ∨ ∃ xs ys, a = .agg xs ∧ b = .agg ys ∧ ls ≠ [.bool] ∧ lfsOk ls xs = true ∧ lfsOk ls ys = true) → (op = .eql ∨ op = .neq) →
  ((do eqGuard op t x y u v; binOp op t u v : Sem Value)).run P w = .ok (.bool (if op = .eql then beqD a b else !(beqD a b))) w
structure VOk (P : Program) (V : Env) : Prop where
  E : TOk P V.E
  C : COk P V.C
  eq : EqOk P V.okEq
  F : FOk P V.F
  prog : V.P = P
def StepOk (P : Program) (r : Result Next) (Q : Value → World → Prop) : Prop :=
  match r with
  | .ok (.value v) w' => Q v w'
  | .ok .skip w' => Q undef w'
  | .ok (.enter f args) w' => Calls P f args w' fun e w'' => ∃ v, e = .returned v ∧ Q v w''
  | _ => False
theorem StepOk.mono {P : Program} {r : Result Next} {Q Q' : Value → World → Prop} (h : StepOk P r Q) (hq : ∀ v w, Q v w → Q' v w) : StepOk P r Q' := by
  unfold StepOk at *
  split at h
  · exact hq _ _ h
  · exact hq _ _ h
  · exact h.mono fun e w ⟨v, he, hv⟩ => ⟨v, he, hq _ _ hv⟩
  · exact h.elim
theorem StepOk.wp {P : Program} {o : Oper} {a : Act} {w : World} {K : Act → World → Prop} {Q : Exit → Act → World → Prop} (h : StepOk P ((execOp a.eval o).run P w) fun v w' => K (a.put o.dst v) w') : o.wp P a w K Q := by
  unfold Oper.wp
  generalize (execOp a.eval o).run P w = r at *
  unfold StepOk at h
  split at h
  · exact h
  · exact h
  · simp only [Oper.upon]
    exact h.mono fun e w ⟨v, he, hv⟩ => by subst he; exact hv
  · exact h.elim
class Rnd where
  r : Option Nat
  /-- The blocks of those who called. -/
  keep : Nat → Prop
def RnF [Rnd] : Fence := { Fence.wide with round := Rnd.r }
theorem RnF_fn [Rnd] (f : FuncId) : RnF.fn f := trivial
theorem calls_RnF [Rnd] {P : Program} {f : FuncId} {args : Array Value} {w : World} {R : Ending → World → Prop} (h : Calls P f args w R) (n : Nat) : CallsIn RnF n P f args w R := by
  unfold RnF
  cases Rnd.r with
  | none => exact (callsIn_wide (n := n)).2 h
  | some l => exact CallsIn.inRound l ((callsIn_wide (n := n)).2 h)
theorem StepOk.wpIn [Rnd] {P : Program} {o : Oper} {a : Act} {w : World} {K : Act → World → Prop} {Q : Exit → Act → World → Prop} (hnd : ∀ c, o.op ≠ .defer c) (h : StepOk P ((execOp a.eval o).run P w) fun v w' => K (a.put o.dst v) w') : o.wpIn RnF 0 P a w K Q := by
  unfold Oper.wpIn
  refine ⟨fun _ _ => RnF_fn _, ?_⟩
  rw [Oper.semAt_eq _ _ _ hnd]
  generalize (execOp a.eval o).run P w = r at *
  unfold StepOk at h
  split at h
  · exact h
  · exact h
  · simp only [Oper.uponIn]
    refine ⟨fun h => by simp [RnF, Fence.wide] at h, calls_RnF (h.mono fun e w hv => ?_) _⟩
    obtain ⟨v, he, hv⟩ := hv
    subst he; exact hv
  · exact h.elim
section types
variable {P : Program} {E : TEnv} {t : TypeId} {i : TI}
theorem tiOk_parts (h : tiOk P t i = true) : ∃ x z, P.info? t = some x ∧ x.size = i.size ∧ x.bytes = i.bytes ∧ x.zero = some z ∧ zerosOk z.cells.toList i.zero = true ∧ isAggV z = i.desc.agg ∧ descOk P t i.desc = true ∧ i.zero.length = i.size := by
  unfold tiOk at h
  cases hx : P.info? t with
  | none => simp [hx] at h
  | some x =>
    simp only [hx, Bool.and_eq_true, beq_iff_eq, decide_eq_true_eq] at h
    obtain ⟨⟨⟨⟨h1, h2⟩, h3⟩, h4⟩, h5⟩ := h
    cases hz : x.zero with
    | none => simp [hz] at h3
    | some z =>
      simp only [hz, Bool.and_eq_true, beq_iff_eq] at h3
      exact ⟨x, z, rfl, h1, h2, hz, h3.1, h3.2, h4, h5⟩
theorem run_sizeOf_ti (hE : TOk P E) (h : E t = some i) (w : World) : (sizeOf t).run P w = .ok i.size w := by
  obtain ⟨x, z, h1, h2, _⟩ := tiOk_parts (hE t i h)
  simp [sizeOf, typeInfo, h1, h2]
theorem run_zero_ti (hE : TOk P E) (h : E t = some i) (w : World) : ∃ z, (zeroValue t).run P w = .ok z w ∧ zerosOk z.cells.toList i.zero = true ∧ isAggV z = i.desc.agg ∧ i.zero.length = i.size := by
  obtain ⟨x, z, h1, h2, h3, h4, h5, h6, h7, h8⟩ := tiOk_parts (hE t i h)
  exact ⟨z, by simp [zeroValue, typeInfo, h1, h4], h5, h6, h8⟩
theorem underlying_slice (hE : TOk P E) {s b : Nat} {z : List D} {e : TypeId} (h : E t = some ⟨s, b, z, .slice e⟩) : P.underlying t = some (.slice e) := by
  obtain ⟨x, z', h1, h2, h3, h4, h5, h6, h7, _⟩ := tiOk_parts (hE t _ h)
  simp only [descOk] at h7
  split at h7
  · rename_i e' he; simp at h7; subst h7; exact he
  · cases h7
theorem underlying_string (hE : TOk P E) {s b : Nat} {z : List D} (h : E t = some ⟨s, b, z, .string⟩) : P.underlying t = some .string := by
  obtain ⟨x, z', h1, h2, h3, h4, h5, h6, h7, _⟩ := tiOk_parts (hE t _ h)
  simp only [descOk] at h7
  split at h7
  · assumption
  · cases h7
theorem underlying_array (hE : TOk P E) {s b n : Nat} {z : List D} {e : TypeId} (h : E t = some ⟨s, b, z, .array n e⟩) : P.underlying t = some (.array n e) := by
  obtain ⟨x, z', h1, h2, h3, h4, h5, h6, h7, _⟩ := tiOk_parts (hE t _ h)
  simp only [descOk] at h7
  split at h7
  · rename_i n' e' he; simp at h7; obtain ⟨rfl, rfl⟩ := h7; exact he
  · cases h7
theorem underlying_struct (hE : TOk P E) {s b : Nat} {z : List D} {fs : List (Nat × TypeId)} (h : E t = some ⟨s, b, z, .struct fs⟩) : ∃ gs, P.underlying t = some (.struct gs) ∧ fs = gs.toList.map fun f => (f.offset, f.type) := by
  obtain ⟨x, z', h1, h2, h3, h4, h5, h6, h7, _⟩ := tiOk_parts (hE t _ h)
  simp only [descOk] at h7
  split at h7
  · rename_i gs he; exact ⟨gs, he, of_decide_eq_true h7⟩
  · cases h7
theorem run_isAgg_ti (hE : TOk P E) (h : E t = some i) (w : World) : (isAgg t).run P w = .ok i.desc.agg w := by
  obtain ⟨x, z', h1, h2, h3, h4, h5, h6, h7, _⟩ := tiOk_parts (hE t _ h)
  unfold isAgg
  cases hu : P.underlying t with
  | none => cases hd : i.desc <;> simp [hd, descOk, hu] at h7
  | some d => cases hd : i.desc <;> cases d <;> simp [hd, descOk, hu] at h7 <;> simp [run_underlying hu, TD.agg]
end types
theorem zeroCellD_rd (I : Imm) {v : Value} {d : D} (h : zeroCellD v d = true) : Rd I v d ∧ d.one = true := by
  unfold zeroCellD at h
  split at h
  all_goals first | (cases h; done) | skip
  all_goals try simp only [Bool.and_eq_true, beq_iff_eq] at h
  · subst h; exact ⟨.bool _, rfl⟩
  · obtain ⟨rfl, rfl⟩ := h; exact ⟨.int _ _, rfl⟩
  · have := ByteArray.ext h; subst this; exact ⟨.str _, rfl⟩
  · exact ⟨.slice0 _ _ _ (Nat.zero_le _), rfl⟩
  · exact ⟨.nilp, rfl⟩
  · exact ⟨.map0, rfl⟩
  · exact ⟨.nilfn, rfl⟩
  · exact ⟨.nilif, rfl⟩
theorem zerosOk_rd (I : Imm) : ∀ (vs : List Value) (ds : List D), zerosOk vs ds = true → vs.length = ds.length ∧ (∀ d ∈ ds, d.one = true) ∧ ∀ (i : Nat) v d, vs[i]? = some v → ds[i]? = some d → Rd I v d
  | [], [], _ => ⟨rfl, by simp, by simp⟩
  | v :: vs, d :: ds, h => by
    simp only [zerosOk, Bool.and_eq_true] at h
    obtain ⟨h1, h2, h3⟩ := zerosOk_rd I vs ds h.2
    obtain ⟨k1, k2⟩ := zeroCellD_rd I h.1
    refine ⟨by simp [h1], by simp [k2]; exact h2, fun i x y hx hy => ?_⟩
    rcases i with _ | i
    · simp at hx hy; subst hx; subst hy; exact k1
    · simp at hx hy; exact h3 i x y hx hy
  | [], _ :: _, h => by simp [zerosOk] at h
  | _ :: _, [], h => by simp [zerosOk] at h
end Go.Eva
namespace Go.Eva
open Go Go.RowKit
variable [Drw]
def Com (l L : List AO) : Prop := ∀ (id : Nat), id < l.length → L[id]? = l[id]?
theorem Com.refl (l : List AO) : Com l l := fun _ _ => rfl
theorem Com.get {l L : List AO} (h : Com l L) {id : Nat} {o : AO} (ho : l[id]? = some o) : L[id]? = some o := (h id (List.getElem?_eq_some_iff.1 ho).1).trans ho
theorem Rd.one' {I : Imm} {v : Value} {d : D} (h : Rd I v d) (hv : v.oneCell' = true) : d.one = true := by
  cases h <;> simp_all [D.one, Value.oneCell']
theorem rd_unD1 {I : Imm} {m : Nat → Value} {L : List AO} {v : Value} {t : T} {x : D} (h : RdT I m L v t) (hx : unD1 t = some x) : Rd I v x := by
  cases h <;> simp [unD1] at hx
  · subst hx; assumption
  · subst hx; exact .slice0 _ _ _ (Nat.zero_le _)
theorem rd_mapM {I : Imm} {m : Nat → Value} {L : List AO} : ∀ (vs : List Value) (ts : List T) (ds : List D), ts.mapM unD1 = some ds → vs.length = ts.length → (∀ (i : Nat) v t, vs[i]? = some v → ts[i]? = some t → RdT I m L v t) →
    vs.length = ds.length ∧ ∀ (i : Nat) v d, vs[i]? = some v → ds[i]? = some d → Rd I v d
  | [], [], ds, h, _, _ => by simp at h; subst h; simp
  | v :: vs, t :: ts, ds, h, hl, hr => by
    simp only [List.mapM_cons, Option.bind_eq_bind, Option.bind_eq_some_iff, Option.pure_def, Option.some.injEq] at h
    obtain ⟨x, hx, xs, hxs, rfl⟩ := h
    obtain ⟨h1, h2⟩ := rd_mapM vs ts xs hxs (by simpa using hl) (fun i v t hv ht => hr (i + 1) v t (by simpa using hv) (by simpa using ht))
    refine ⟨by simp [h1], fun i u d hu hd => ?_⟩
    rcases i with _ | i
    · simp at hu hd; subst hu; subst hd
      exact rd_unD1 (hr 0 v t rfl rfl) hx
    · simp at hu hd; exact h2 i u d hu hd
  | [], _ :: _, _, _, hl, _ => by simp at hl
  | _ :: _, [], _, _, hl, _ => by simp at hl
theorem ti_size_one {P : Program} {E : TEnv} {t : TypeId} {i : TI} (hE : TOk P E) (h : E t = some i) (ha : i.desc.agg = false) : i.size = 1 := by
  obtain ⟨x, z, h1, h2, h3, h4, h5, h6, h7, h8⟩ := tiOk_parts (hE t i h)
  rw [ha] at h6
  have hz : z.cells.toList.length = 1 := by cases z <;> simp_all [isAggV, Value.cells]
  have := (zerosOk_rd (I := ⟨fun _ _ => none, fun _ => none, fun _ => False⟩) _ _ h5).1
  omega
theorem run_load_cells {P : Program} {E : TEnv} {t : TypeId} {i : TI} (hE : TOk P E) (h : E t = some i) (w : World) (b o : Nat) (cs : List Value) (hl : cs.length = i.size) (hc : w.rangeAt b o cs) :
    (Instr.loadAt t (.pointer (some ⟨b, o, none⟩))).run P w = .ok (if i.desc.agg then .agg cs.toArray else cs.headD undef) w := by
  have hA := run_isAgg_ti hE h
  have hS := run_sizeOf_ti hE h
  cases ha : i.desc.agg with
  | true =>
    have hl' : (loadCells ⟨b, o, none⟩ cs.length).run P w = .ok cs.toArray w :=
      run_loadCells_list (P := P) w ⟨b, o, none⟩ cs (fun j v hv => by rw [Addr.add_mid]; exact hc j v hv)
    simp only [Instr.loadAt, Instr.sureAddr, Sem.run_bind, Sem.run_pure, Result.andThen_ok, loadVar, hA, ha, hS, ← hl, hl', if_true]
  | false =>
    have h1 := ti_size_one hE h ha
    rw [h1] at hl
    match cs, hl with
    | [c], _ =>
      have hcell : w.cell? ⟨b, o, none⟩ = some c := by simpa using hc 0 c rfl
      simp [Instr.loadAt, Instr.sureAddr, Sem.run_bind, Result.andThen_ok, loadVar, hA, ha, hcell, List.headD]
theorem rangeAt_var {w : World} {b off n : Nat} {vs : Array Value} {ty : TypeId} {fr : Nat × Nat} (h : w.heap[b]? = some (.cells vs ty fr)) : w.rangeAt b off ((vs.toList.drop off).take n) := by
  intro j v hv
  rw [List.getElem?_take] at hv
  split at hv
  · rw [List.getElem?_drop] at hv
    simp only [World.cell?, h]
    simpa using hv
  · cases hv
theorem dataT_unD1 : ∀ (ts : List T) (ds : List D), ts.mapM dataT = some ds → ts.mapM unD1 = some ds
  | [], ds, h => h
  | t :: ts, ds, h => by
    simp only [List.mapM_cons, Option.bind_eq_bind, Option.bind_eq_some_iff, Option.pure_def, Option.some.injEq] at h ⊢
    obtain ⟨x, hx, xs, hxs, rfl⟩ := h
    refine ⟨x, ?_, xs, dataT_unD1 ts xs hxs, rfl⟩
    cases t <;> simp [dataT] at hx
    subst hx; rfl
theorem mkT_ok {I : Imm} {m : Nat → Value} {L : List AO} {i : TI} {vs : List Value} {ts : List T} (hl : vs.length = ts.length) (hn : vs.length = i.size) (h1 : i.desc.agg = false → i.size = 1)
    (hr : ∀ (j : Nat) v t, vs[j]? = some v → ts[j]? = some t → RdT I m L v t ∧ v.oneCell' = true) : RdT I m L (if i.desc.agg then .agg vs.toArray else vs.headD undef) (mkT i.desc.agg ts) := by
  cases ha : i.desc.agg with
  | true =>
    simp only [if_true, mkT]
    cases hm : ts.mapM dataT with
    | none =>
      refine .agg _ _ (by simpa using hl) (fun j v hv => ?_) (fun j v t hv ht => (hr j v t (by simpa using hv) ht).1)
      have hv' : vs[j]? = some v := by simpa using hv
      have hj := (List.getElem?_eq_some_iff.1 hv').1
      exact (hr j v _ hv' (List.getElem?_eq_getElem (by omega))).2
    | some ds =>
      obtain ⟨k1, k2⟩ := rd_mapM vs ts ds (dataT_unD1 ts ds hm) hl (fun j v t hv ht => (hr j v t hv ht).1)
      refine .d _ _ (.agg _ _ (by simpa using k1) (fun d hd => ?_) (fun j v d hv hd => k2 j v d (by simpa using hv) hd))
      obtain ⟨j, hj, rfl⟩ := List.mem_iff_getElem.1 hd
      have hv : vs[j]? = some (vs[j]'(by omega)) := List.getElem?_eq_getElem (by omega)
      have ht : ts[j]? = some (ts[j]'(by omega)) := List.getElem?_eq_getElem (by omega)
      exact (k2 j _ _ hv (List.getElem?_eq_getElem hj)).one' (hr j _ _ hv ht).2
  | false =>
    have := h1 ha
    match vs, ts, hl, (by omega : vs.length = 1) with
    | [v], [t], _, _ => simpa [mkT] using (hr 0 v t rfl rfl).1
theorem flat_get {size : Nat} : ∀ (els : List D), (∀ d ∈ els, d.cells.length = size) → ∀ (k j : Nat) (d : D), els[k]? = some d → j < size → (flat els)[k * size + j]? = d.cells[j]?
  | [], _, k, j, d, h, _ => by simp at h
  | e :: els, hs, k, j, d, h, hj => by
    have he : e.cells.length = size := hs e (by simp)
    simp only [flat, List.flatMap_cons]
    rcases k with _ | k
    · simp at h; subst h
      rw [List.getElem?_append_left (by omega)]; simp
    · simp at h
      rw [List.getElem?_append_right (by rw [he, Nat.add_mul]; omega)]
      have := flat_get els (fun d hd => hs d (by simp [hd])) k j d h hj
      rw [he]
      rw [show (k + 1) * size + j - size = k * size + j by rw [Nat.add_mul]; omega]
      exact this
theorem flat_len {size : Nat} : ∀ (els : List D), (∀ d ∈ els, d.cells.length = size) → (flat els).length = els.length * size
  | [], _ => by simp [flat]
  | e :: els, hs => by
    have := flat_len els (fun d hd => hs d (by simp [hd]))
    simp only [flat, List.flatMap_cons, List.length_append, List.length_cons] at *
    rw [hs e (by simp), this, Nat.add_mul]; omega
theorem loadEl_ok {P : Program} {E : TEnv} {ty : TypeId} {i : TI} (hE : TOk P E) (h : E ty = some i) {w : World} {I : Imm} {m : Nat → Value} {L : List AO} {b o size k off : Nat} {els : List D} {val : Nat → Value}
    (hs : ∀ d ∈ els, d.cells.length = size ∧ ∀ x ∈ d.cells, x.one = true)
    (hc : ∀ j, j < els.length * size → w.cell? ⟨b, o + j, none⟩ = some (val j)) (hr : ∀ (j : Nat) x, (flat els)[j]? = some x → Rd I (val j) x) (hob : (loadEl i size els k off).ob) :
    (loadEl i size els k off).eff = .none ∧ ∃ u, (Instr.loadAt ty (.pointer (some ⟨b, o + k * size + off, none⟩))).run P w = .ok u w ∧ RdT I m L u (loadEl i size els k off).t := by
  have hs' : ∀ d ∈ els, d.cells.length = size := fun d hd => (hs d hd).1
  have hk : k < els.length := by unfold loadEl at hob; split at hob <;> exact hob.1
  have hkd : els[k]? = some els[k] := List.getElem?_eq_getElem hk
  have hel : elAt els k = els[k] := by simp [elAt, hkd]
  have hoff : off + i.size ≤ size := by
    unfold loadEl at hob; split at hob
    · rename_i hh; omega
    · exact hob.2
  have hmem : els[k] ∈ els := List.getElem_mem hk
  have hcl : els[k].cells.length = size := hs' _ hmem
  have hbound : ∀ j, j < size → k * size + j < els.length * size := fun j hj => by
    have : (k + 1) * size ≤ els.length * size := Nat.mul_le_mul_right _ hk
    rw [Nat.add_mul] at this; omega
  have hrange : w.rangeAt b (o + k * size + off) ((List.range i.size).map fun j => val (k * size + (off + j))) := by
    intro j v hv
    simp only [List.getElem?_map] at hv
    by_cases hj : j < i.size
    · simp [hj] at hv
      have := hc (k * size + (off + j)) (hbound _ (by omega))
      rw [show o + k * size + off + j = o + (k * size + (off + j)) by omega, this, hv]
    · simp [hj] at hv
  have hload := run_load_cells hE h w b (o + k * size + off) _ (by simp) hrange
  have hread : ∀ j, j < i.size → ∀ x, els[k].cells[off + j]? = some x → Rd I (val (k * size + (off + j))) x := fun j hj x hx =>
    hr _ x ((flat_get els hs' k (off + j) els[k] hkd (by omega)).trans hx)
  have hones : ∀ x ∈ els[k].cells, x.one = true := (hs _ hmem).2
  refine ⟨by unfold loadEl; split <;> rfl, _, hload, ?_⟩
  -- what the value reads as
  have hcells : ∀ ds : List D, ds = (els[k].cells.drop off).take i.size → RdT I m L (if i.desc.agg then .agg ((List.range i.size).map fun j => val (k * size + (off + j))).toArray else ((List.range i.size).map fun j => val (k * size + (off + j))).headD undef) (.d (mkD i.desc.agg ds)) := by
    intro ds hds
    have hlen : ds.length = i.size := by rw [hds, List.length_take, List.length_drop, hcl]; omega
    have hget : ∀ (j : Nat) x, ds[j]? = some x → j < i.size ∧ els[k].cells[off + j]? = some x := by
      intro j x hx
      have hj : j < i.size := by rw [← hlen]; exact (List.getElem?_eq_some_iff.1 hx).1
      rw [hds, List.getElem?_take, if_pos hj, List.getElem?_drop] at hx
      exact ⟨hj, hx⟩
    cases ha : i.desc.agg with
    | true =>
      simp only [if_true, mkD]
      refine .d _ _ (.agg _ _ (by simp [hlen]) (fun d hd => ?_) (fun j v d hv hd => ?_))
      · rw [hds] at hd
        exact hones d (List.mem_of_mem_drop (List.mem_of_mem_take hd))
      · obtain ⟨hj, hx⟩ := hget j d hd
        have : v = val (k * size + (off + j)) := by
          simp [hj] at hv
          exact hv.symm
        rw [this]; exact hread j hj d hx
    | false =>
      have h1 := ti_size_one hE h ha
      rw [h1] at hlen ⊢
      match ds, hlen, hget with
      | [x], _, hget =>
        obtain ⟨_, hx⟩ := hget 0 x rfl
        simp only [mkD, List.headD, Bool.false_eq_true, if_false]
        exact .d _ _ (by simpa using hread 0 (by omega) x hx)
  by_cases hh : size = i.size ∧ off = 0
  · simp only [loadEl, if_pos hh] at hob ⊢
    have hsz : size = i.size := hh.1
    have ho : off = 0 := hh.2
    have hagg : isAggD (elAt els k) = i.desc.agg := hob.2
    have := hcells els[k].cells (by subst ho; rw [List.drop_zero, List.take_of_length_le (by omega)])
    rw [hel] at hagg ⊢
    have hm : mkD i.desc.agg els[k].cells = els[k] := by
      cases he : els[k] <;> simp_all [isAggD, mkD, D.cells]
    rw [hm] at this
    exact this
  · simp only [loadEl, if_neg hh]
    rw [hel]
    exact hcells _ rfl
section
variable {P : Program} {V : Env} {w0 w : World} {I0 I : Imm} {m : Nat → Value} {l L : List AO}
theorem row_cells {w : World} {B : Nat} {e : TypeId} {size n b c : Nat} {xs : List Value} (h : w.ownsRow B e size (.slice (some ⟨b, 0, none⟩) n c) n xs) : ∀ (j : Nat) x, xs[j]? = some x → w.cell? ⟨b, j, none⟩ = some x := by
  intro j x hx
  rcases h.2 with ⟨hv, _⟩ | ⟨g, cap, cur, hv, hb, hg, h1, h2, h3, h4⟩
  · cases hv
  · injection hv with hv _ _; injection hv with hv; injection hv with hv; subst hv
    rw [← h4, List.getElem?_take] at hx
    split at hx
    · simpa [World.cell?, hg] using hx
    · cases hx
theorem row_cells' {B : Nat} {v : Value} {e : TypeId} {size b n c : Nat} {els : List D} {xs : List Value} (h1 : w.ownsRow B e size v els.length xs) (hv : v = .slice (some ⟨b, 0, none⟩) n c) : els.length = n ∧ ∀ (j : Nat) x, xs[j]? = some x → w.cell? ⟨b, j, none⟩ = some x := by
  have hn : els.length = n := by
    rcases h1.2 with ⟨q, _⟩ | ⟨g, cap, cur, q, _⟩ <;> rw [q] at hv
    · cases hv
    · injection hv
  subst hn; subst hv
  exact ⟨rfl, row_cells h1⟩
theorem loadAs_ok (hE : TOk P V.E) (hrel : WRel w0 I0 w I m L) (hc : Com l L) {ty : TypeId} {v : Value} {x : T} (hx : RdT I m L v x) (hob : (loadAs V.E ty l x).ob) :
    (loadAs V.E ty l x).eff = .none ∧ ∃ u, (Instr.loadAt ty v).run P w = .ok u w ∧ RdT I m L u (loadAs V.E ty l x).t := by
  cases hx with
  | ptr id b off hv hm =>
    simp only [loadAs] at hob ⊢
    cases hi : V.E ty with
    | none => simp [hi, R.bad] at hob
    | some i =>
      cases ho : l[id]? with
      | none => simp [hi, ho, R.bad] at hob
      | some o =>
        cases o with
        | var t' cs =>
          simp only [hi, ho] at hob ⊢
          split at hob
          · rename_i hle
            rw [if_pos hle]
            obtain ⟨b', vs, hv', h1, h2, h3, h4, h5⟩ := hrel.obj id _ (hc.get ho)
            rw [hm] at hv'; injection hv' with hv'; injection hv' with hv'; injection hv' with hv'; subst hv'
            have hlen : ((vs.toList.drop off).take i.size).length = i.size := by simp; omega
            refine ⟨rfl, _, run_load_cells hE hi w b off _ hlen (rangeAt_var h2), ?_⟩
            refine mkT_ok (by simp; omega) hlen (ti_size_one hE hi) (fun j v t hv ht => ?_)
            rw [List.getElem?_take] at hv ht
            split at hv
            · rename_i hj
              rw [if_pos hj] at ht
              rw [List.getElem?_drop] at hv ht
              exact h4 (off + j) v t (by simpa using hv) ht
            · cases hv
          · simp [R.bad] at hob
        | _ => simp [hi, ho, R.bad] at hob
  | eptr b o size els k off val h1 h2 h3 h4 =>
    simp only [loadAs] at hob ⊢
    cases hi : V.E ty with
    | none => simp [hi, R.bad] at hob
    | some i =>
      simp only [hi] at hob ⊢
      exact loadEl_ok hE hi h2 (fun j hj => hrel.sat.cell _ _ _ (h3 j hj)) h4 hob
  | rptr a id k off h1 h2 =>
    simp only [loadAs] at hob ⊢
    cases hi : V.E ty with
    | none => simp [hi, R.bad] at hob
    | some i =>
      cases ho : l[id]? with
      | none => simp [hi, ho, R.bad] at hob
      | some o =>
        cases o with
        | row e size els =>
          simp only [hi, ho] at hob ⊢
          obtain ⟨b, n, c, q1, rfl⟩ := h2 e size els (.inl (hc.get ho))
          obtain ⟨xs, k1, k2, k3, k4⟩ := hrel.obj id _ (hc.get ho)
          obtain ⟨hn, hcell⟩ := row_cells' k1 q1
          have hxl : xs.length = els.length * size := k1.1
          have := loadEl_ok (P := P) (I := I) (m := m) (L := L) (w := w) (b := b) (o := 0) (k := k) (off := off) (val := fun j => (xs[j]?).getD undef) hE hi k2
            (fun j hj => by rw [Nat.zero_add]; exact hcell j _ (by simp [hxl, hj])) (fun j x hx => by
              have hjl : j < els.length * size := by rw [← flat_len els (fun d hd => (k2 d hd).1)]; exact (List.getElem?_eq_some_iff.1 hx).1
              have hxs : xs[j]? = some (xs[j]'(by omega)) := List.getElem?_eq_getElem (by omega)
              rw [hxs]; exact k3 j _ x hxs hx) hob
          simpa using this
        | frow e size els =>
          simp only [hi, ho] at hob ⊢
          obtain ⟨b, n, c, q1, rfl⟩ := h2 e size els (.inr (hc.get ho))
          obtain ⟨xs, k1, k2, k3, k4⟩ := hrel.obj id _ (hc.get ho)
          obtain ⟨hn, hcell⟩ := row_cells' k1 q1
          have hxl : xs.length = els.length * size := k1.1
          have := loadEl_ok (P := P) (I := I) (m := m) (L := L) (w := w) (b := b) (o := 0) (k := k) (off := off) (val := fun j => (xs[j]?).getD undef) hE hi k2
            (fun j hj => by rw [Nat.zero_add]; exact hcell j _ (by simp [hxl, hj])) (fun j x hx => by
              have hjl : j < els.length * size := by rw [← flat_len els (fun d hd => (k2 d hd).1)]; exact (List.getElem?_eq_some_iff.1 hx).1
              have hxs : xs[j]? = some (xs[j]'(by omega)) := List.getElem?_eq_getElem (by omega)
              rw [hxs]; exact k3 j _ x hxs hx) hob
          simpa using this
        | _ => simp [hi, ho, R.bad] at hob
  | _ => simp [loadAs, R.bad] at hob
end
end Go.Eva
namespace Go.Eva
open Go Go.RowKit
variable [Drw]
section
variable {P : Program} {V : Env} {w0 w : World} {I0 I : Imm} {m : Nat → Value} {l L : List AO}
theorem isVar_set {l : List AO} {id : Nat} {o o' : AO} (h : l[id]? = some o) (hv : o.isVar = o'.isVar) (k : Nat) : isVar (l.set id o') k = isVar l k := by
  unfold isVar
  by_cases hk : k = id
  · subst hk
    rw [List.getElem?_set, if_pos rfl, if_pos (List.getElem?_eq_some_iff.1 h).1, h]; simp [hv]
  · rw [List.getElem?_set, if_neg (Ne.symm hk)]
theorem isRow_set {l : List AO} {id : Nat} {o o' : AO} (h : l[id]? = some o) (hv : o.isRow = o'.isRow) (k : Nat) : isRow (l.set id o') k = isRow l k := by
  unfold isRow
  by_cases hk : k = id
  · subst hk
    rw [List.getElem?_set, if_pos rfl, if_pos (List.getElem?_eq_some_iff.1 h).1, h]; simp [hv]
  · rw [List.getElem?_set, if_neg (Ne.symm hk)]
theorem Le.setVar {id : Nat} {ty ty' : TypeId} {cs cs' : List T} (h : l[id]? = some (.var ty cs)) : Le I m l I m (l.set id (.var ty' cs')) := by
  refine ⟨.refl I, by simp, fun k _ hk => ⟨(isVar_set (o' := .var ty' cs') h rfl k).trans hk, rfl⟩, fun k _ hk => ⟨(isRow_set (o' := .var ty' cs') h rfl k).symm.trans hk, rfl⟩, fun k e size els hk hh => ⟨els, ?_⟩⟩
  by_cases hki : k = id
  · subst hki; rw [List.getElem?_set, if_pos rfl, if_pos (List.getElem?_eq_some_iff.1 h).1] at hh; simp at hh
  · rw [List.getElem?_set, if_neg (Ne.symm hki)] at hh; exact hh
theorem store_ok (hE : TOk P V.E) (hrel : WRel w0 I0 w I m l) {id off b : Nat} {ty t' : TypeId} {cs : List T} {x : T} {v : Value} (ho : l[id]? = some (.var t' cs)) (hm : m id = .pointer (some ⟨b, 0, none⟩))
    (hx : RdT I m l v x) (h1 : (cellsT x).all T.oneT = true) (hn : (cellsT x).length = sizeE V.E ty) (hpos : 0 < (cellsT x).length) (hle : off + (cellsT x).length ≤ cs.length) :
    ∃ w', (Instr.storeAt ty (.pointer (some ⟨b, off, none⟩)) v).run P w = .ok () w' ∧ WRel w0 I0 w' I m (l.set id (.var t' (setAt cs off (cellsT x)))) := by
  obtain ⟨b', vs, hv', k1, k2, k3, k4, k5⟩ := hrel.obj id _ ho
  rw [hm] at hv'; injection hv' with hv'; injection hv' with hv'; injection hv' with hv'; subst hv'
  -- the value's cells
  have hcells : v.cells.toList.length = (cellsT x).length ∧ (∀ u ∈ v.cells.toList, u.oneCell' = true) ∧ ∀ (i : Nat) u t, v.cells.toList[i]? = some u → (cellsT x)[i]? = some t → RdT I m l u t := by
    have one : ∀ (u : Value), u.oneCell' = true → u.cells.toList = [u] := fun u hu => by cases u <;> simp_all [Value.oneCell', Value.cells]
    have single : ∀ (t : T), cellsT t = [t] → RdT I m l v t → v.oneCell' = true → v.cells.toList.length = (cellsT t).length ∧ (∀ u ∈ v.cells.toList, u.oneCell' = true) ∧ ∀ (i : Nat) u s, v.cells.toList[i]? = some u → (cellsT t)[i]? = some s → RdT I m l u s := by
      intro t ht hr hv
      rw [one v hv, ht]
      refine ⟨rfl, by simpa using hv, fun i u s hu hs => ?_⟩
      rcases i with _ | i
      · simp at hu hs; subst hu; subst hs; exact hr
      · simp at hu
    cases hx with
    | undef => simp [cellsT, T.oneT] at h1
    | d _ d hd =>
      by_cases ht : ∃ ds, d = .tup ds
      · obtain ⟨ds, rfl⟩ := ht; simp [cellsT, D.cells, T.oneT, D.one] at h1
      · obtain ⟨q1, q2, q3⟩ := hd.cells (fun ds e => ht ⟨ds, e⟩)
        refine ⟨by simp [cellsT, q1], fun u hu => ?_, fun i u t hu ht' => ?_⟩
        · obtain ⟨i, hi, rfl⟩ := List.mem_iff_getElem.1 hu
          have hi' : i < d.cells.length := by simp at hi; omega
          exact (q3 i _ d.cells[i] (by rw [← Array.getElem?_toList]; exact List.getElem?_eq_getElem hi) (List.getElem?_eq_getElem hi')).one (q2 _ (List.getElem_mem hi'))
        · simp only [cellsT, List.getElem?_map] at ht'
          cases hd' : d.cells[i]? with
          | none => simp [hd'] at ht'
          | some y =>
            simp [hd'] at ht'
            subst ht'
            exact .d _ _ (q3 i u y (by simpa using hu) hd')
    | nils s => exact single _ rfl (.nils s) rfl
    | ptr id b off q1 q2 => exact single _ rfl (.ptr id b off q1 q2) rfl
    | eptr b o size els k off val q1 q2 q3 q4 => exact single _ rfl (.eptr b o size els k off val q1 q2 q3 q4) rfl
    | tup => simp [cellsT, T.oneT] at h1
    | cond => simp [cellsT, T.oneT] at h1
    | row A n c id q1 q2 => exact single _ rfl (.row A n c id q1 q2) rfl
    | rptr a id k off q1 q2 => exact single _ rfl (.rptr a id k off q1 q2) rfl
    | map r id q1 q2 => exact single _ rfl (.map r id q1 q2) rfl
    | clo g vs ts q1 q2 => exact single _ rfl (.clo g vs ts q1 q2) rfl
    | yld id b q1 q2 => exact single _ rfl (.yld id b q1 q2) rfl
    | sub A n c id lo hi q1 q2 => exact single _ rfl (.sub A n c id lo hi q1 q2) rfl
    | agg vs ts q1 q2 q3 =>
      refine ⟨by simp [cellsT, Value.cells, q1], fun u hu => ?_, fun i u t hu ht => q3 i u t (by simpa [Value.cells] using hu) (by simpa [cellsT] using ht)⟩
      obtain ⟨i, hi, rfl⟩ := List.mem_iff_getElem.1 hu
      simp only [Value.cells] at hi ⊢
      exact q2 i _ (by rw [← Array.getElem?_toList]; exact List.getElem?_eq_getElem hi)
  obtain ⟨c1, c2, c3⟩ := hcells
  have hsize : (sizeOf ty).run P w = .ok v.cells.size w := by
    cases hi : V.E ty with
    | none => simp only [sizeE, hi, Option.map_none, Option.getD_none] at hn; omega
    | some i =>
      rw [run_sizeOf_ti hE hi w]
      simp only [sizeE, hi, Option.map_some, Option.getD_some] at hn
      rw [Array.length_toList] at c1; congr 1; omega
  have hst := run_storeCells_at P b off t' v.cells.toList 0 vs w k2 (by rw [k3]; omega) c2
  refine ⟨_, by simp only [Instr.storeAt, Instr.sureAddr, Sem.run_bind, Sem.run_pure, Result.andThen_ok, storeVar, hsize, ne_eq, not_true_eq_false, if_false, hst]; rfl, ?_⟩
  simp only [Nat.add_zero]
  generalize hnew : (vs.toList.take off ++ v.cells.toList ++ vs.toList.drop (off + v.cells.toList.length)).toArray = new
  have hlt : b < w.heap.size := (Array.getElem?_eq_some_iff.1 k2).1
  have hheap : (w.setRow b new).heap[b]? = some (.cells new t' (0, 0)) := setRow_heap w b vs new t' (0, 0) k2
  have hle' : Le I m l I m (l.set id (.var t' (setAt cs off (cellsT x)))) := Le.setVar ho
  have hidl : id < l.length := (List.getElem?_eq_some_iff.1 ho).1
  refine ⟨hrel.below.trans ⟨rfl, rfl, rfl, by simp, fun k hk => setRow_other w b _ new (by omega), fun _ => Nat.le_refl _⟩, ⟨fun b' o u hc => ?_, fun b' es hc => ?_, fun b' hd => (setRow_other w b _ new (fun e => by subst e; exact hrel.sat.ndf k2 (by simp) hd)).trans (hrel.sat.df b' hd), hrel.sat.glob⟩, hrel.ext, fun j o hj => ?_, fun i j b' hij hi hj hbi hbj => ?_⟩
  · have hne : b' ≠ b := by rintro rfl; rw [k5.1] at hc; cases hc
    have := hrel.sat.cell b' o u hc
    exact (World.cell?_of_block (w := w) (a := ⟨b', o, none⟩) (setRow_other w b _ new hne)).trans this
  · have hne : b' ≠ b := by rintro rfl; rw [k5.2] at hc; cases hc
    have hh := hrel.sat.mp b' es hc
    exact MapAt.to (setRow_other w b _ new hne) hh
  · by_cases hji : j = id
    · subst hji
      rw [List.getElem?_set, if_pos rfl, if_pos hidl] at hj
      injection hj with hj; subst hj
      refine ⟨b, new, hm, k1, hheap, ?_, fun i u t hu ht => ?_, k5⟩
      · subst hnew; simp [setAt, k3, List.length_append, List.length_take, List.length_drop] at c1 ⊢; omega
      · subst hnew
        have key : ∀ (i : Nat), (vs.toList.take off ++ v.cells.toList ++ vs.toList.drop (off + v.cells.toList.length))[i]? = some u → (setAt cs off (cellsT x))[i]? = some t → RdT I m l u t ∧ u.oneCell' = true := by
          intro i hu ht
          have l1 : (vs.toList.take off).length = off := by simp; omega
          have l2 : (cs.take off).length = off := by simp; omega
          rw [List.append_assoc, List.getElem?_append] at hu
          rw [setAt, List.append_assoc, List.getElem?_append] at ht
          rw [l1] at hu; rw [l2] at ht
          by_cases hi : i < off
          · rw [if_pos hi] at hu ht
            rw [List.getElem?_take, if_pos hi] at hu ht
            exact k4 i u t (by simpa using hu) ht
          · rw [if_neg hi] at hu ht
            rw [List.getElem?_append] at hu ht
            rw [c1] at hu
            by_cases hi2 : i - off < (cellsT x).length
            · rw [if_pos hi2] at hu ht
              refine ⟨c3 _ u t hu ht, c2 u ?_⟩
              exact List.mem_of_getElem? hu
            · rw [if_neg hi2] at hu ht
              rw [List.getElem?_drop] at hu ht
              exact k4 _ u t (by simpa using hu) ht
        have := key i (by simpa using hu) ht
        exact ⟨this.1.mono hle', this.2⟩
    · rw [List.getElem?_set, if_neg (Ne.symm hji)] at hj
      by_cases hd : o = .dead
      · subst hd; trivial
      · refine (hrel.obj j o hj).keep hle' (fun b' hb' => setRow_other w b _ new ?_) (fun _ _ => ⟨rfl, rfl⟩)
        rintro rfl
        exact hrel.sep j id b' hji (alive_iff.2 ⟨o, hj, hd⟩) (alive_iff.2 ⟨_, ho, by simp⟩) hb' (by rw [hm]; rfl)
  · refine hrel.sep i j b' hij ?_ ?_ hbi hbj
    · unfold alive at hi ⊢; rwa [isVar_set (o' := .var t' (setAt cs off (cellsT x))) ho rfl, isRow_set (o' := .var t' (setAt cs off (cellsT x))) ho rfl] at hi
    · unfold alive at hj ⊢; rwa [isVar_set (o' := .var t' (setAt cs off (cellsT x))) ho rfl, isRow_set (o' := .var t' (setAt cs off (cellsT x))) ho rfl] at hj
end
end Go.Eva
namespace Go.Eva
open Go Go.RowKit
variable [Drw]
section
variable {P : Program} {V : Env} {w0 w : World} {I0 I : Imm} {m : Nat → Value} {l L : List AO}
theorem WRel.turn (h : WRel w0 I0 w I m l) {id : Nat} {o o' : AO} {J : Imm} (ho : l[id]? = some o) (hv : o.isVar = o'.isVar) (hr : o.isRow = o'.isRow) (hoo : o'.isRow = true)
    (hrow : ∀ e size els, (o' = .row e size els ∨ o' = .frow e size els) → ∃ els', (o = .row e size els' ∨ o = .frow e size els'))
    (hle : I.le J) (hJ : ∀ b, own (m id) ≠ some b → J.cell b = I.cell b ∧ J.mp b = I.mp b) (hsat : SatI w J)
    (hok : ObjOk w0.heap.size w J m (l.set id o') (m id) o') : WRel w0 I0 w J m (l.set id o') ∧ Le I m l J m (l.set id o') := by
  have hidl : id < l.length := (List.getElem?_eq_some_iff.1 ho).1
  have hLe : Le I m l J m (l.set id o') := by
    refine ⟨hle, by simp, fun k _ hk => ⟨(isVar_set ho hv k).trans hk, rfl⟩, fun k _ hk => ⟨(isRow_set ho hr k).symm.trans hk, rfl⟩, fun k e size els hk hh => ?_⟩
    by_cases hki : k = id
    · subst hki; rw [List.getElem?_set, if_pos rfl, if_pos hidl] at hh
      have hh' : o' = .row e size els ∨ o' = .frow e size els := by rcases hh with hh | hh <;> (injection hh with hh; simp [hh])
      obtain ⟨els', hc⟩ := hrow e size els hh'
      exact ⟨els', by rcases hc with hc | hc <;> rw [ho, hc] <;> simp⟩
    · rw [List.getElem?_set, if_neg (Ne.symm hki)] at hh; exact ⟨els, hh⟩
  have hdead : o ≠ .dead := by rintro rfl; rw [← hr] at hoo; simp [AO.isRow] at hoo
  refine ⟨⟨h.below, hsat, ⟨fun _ _ _ x => hle.cell _ _ _ (h.ext.lc _ _ _ x), fun _ _ x => hle.mp _ _ (h.ext.lm _ _ x), fun b hb x => hle.df b (h.ext.ld b hb x), fun b hb => ?_, fun b hb => ?_⟩, fun j o1 hj => ?_, fun i j b hij hi hj => ?_⟩, hLe⟩
  · by_cases hb' : own (m id) = some b
    · have := ((h.obj id o ho).lt hdead hb').2; omega
    · exact (hJ b hb').1.trans (h.ext.cell b hb)
  · by_cases hb' : own (m id) = some b
    · have := ((h.obj id o ho).lt hdead hb').2; omega
    · exact (hJ b hb').2.trans (h.ext.mp b hb)
  · by_cases hji : j = id
    · subst hji; rw [List.getElem?_set, if_pos rfl, if_pos hidl] at hj; injection hj with hj; subst hj; exact hok
    · rw [List.getElem?_set, if_neg (Ne.symm hji)] at hj
      by_cases hd : o1 = .dead
      · subst hd; trivial
      · exact (h.obj j o1 hj).keep hLe (fun _ _ => rfl) (fun b hb => hJ b (fun he => h.sep j id b hji (alive_iff.2 ⟨o1, hj, hd⟩) (alive_iff.2 ⟨o, ho, hdead⟩) hb he))
  · refine h.sep i j b hij ?_ ?_
    · unfold alive at hi ⊢; rwa [isVar_set (o' := o') ho hv, isRow_set (o' := o') ho hr] at hi
    · unfold alive at hj ⊢; rwa [isVar_set (o' := o') ho hv, isRow_set (o' := o') ho hr] at hj
def Imm.withCells (I : Imm) (b : Nat) (xs : List Value) : Imm := ⟨fun b' o => if b' = b then (match xs[o]? with | some x => some x | none => I.cell b o) else I.cell b' o, I.mp, I.df⟩
def Imm.withMap (I : Imm) (b : Nat) (es : ME) : Imm := ⟨I.cell, fun b' => if b' = b then some es else I.mp b', I.df⟩
theorem rd_row {J : Imm} {v : Value} {B : Nat} {e : TypeId} {size : Nat} {els : List D} {xs : List Value} (h1 : w.ownsRow B e size v els.length xs) (h2 : ∀ d ∈ els, d.cells.length = size ∧ ∀ x ∈ d.cells, x.one = true)
    (h3 : ∀ (j : Nat) x y, xs[j]? = some x → (flat els)[j]? = some y → Rd J x y) (hJ : ∀ b, own v = some b → ∀ (j : Nat) x, xs[j]? = some x → J.cell b j = some x) : Rd J v (.slice size els) := by
  have hxl : xs.length = els.length * size := h1.1
  rcases h1.2 with ⟨rfl, hn⟩ | ⟨g, cap, cur, rfl, hb, hg, k1, k2, k3, k4⟩
  · have : els = [] := List.eq_nil_of_length_eq_zero hn
    subst this
    exact .slice0 _ _ _ (Nat.zero_le _)
  · refine .slice g 0 els.length cap size els (fun j => (xs[j]?).getD undef) rfl k1 k2 h2 (fun j hj => ?_) (fun j x hx => ?_)
    · have hxs : xs[j]? = some (xs[j]'(by omega)) := List.getElem?_eq_getElem (by omega)
      rw [Nat.zero_add, hxs]; exact hJ g rfl j _ hxs
    · have hjl : j < els.length * size := by rw [← flat_len els (fun d hd => (h2 d hd).1)]; exact (List.getElem?_eq_some_iff.1 hx).1
      have hxs : xs[j]? = some (xs[j]'(by omega)) := List.getElem?_eq_getElem (by omega)
      rw [hxs]; exact h3 j _ x hxs hx
theorem toD1_ok (hrel : WRel w0 I0 w I m l) {v : Value} {t : T} {x : D} {l' : List AO} (ht : RdT I m l v t) (hd : toD1 l t = some (x, l')) : ∃ J, Le I m l J m l' ∧ WRel w0 I0 w J m l' ∧ Rd J v x ∧ l'.length = l.length := by
  cases ht with
  | d v y hy => simp [toD1] at hd; obtain ⟨rfl, rfl⟩ := hd; exact ⟨I, .refl .., hrel, hy, rfl⟩
  | nils s => simp [toD1] at hd; obtain ⟨rfl, rfl⟩ := hd; exact ⟨I, .refl .., hrel, .slice0 _ _ _ (Nat.zero_le _), rfl⟩
  | row A n c id h1 h2 =>
    simp only [toD1] at hd
    cases ho : l[id]? with
    | none => simp [ho] at hd
    | some o =>
      cases o with
      | frow e s els =>
        simp only [ho, Option.some.injEq, Prod.mk.injEq] at hd
        obtain ⟨rfl, rfl⟩ := hd
        have hm := h2 (by simp [isRow, ho, AO.isRow])
        obtain ⟨xs, k1, k2, k3, k4⟩ := hrel.obj id _ ho
        rw [hm] at k1 k4
        exact ⟨I, .refl .., hrel, rd_row k1 k2 k3 (fun b hb => (k4 b hb).2.1), rfl⟩
      | row e s els =>
        simp only [ho, Option.some.injEq, Prod.mk.injEq] at hd
        obtain ⟨rfl, rfl⟩ := hd
        have hm := h2 (by simp [isRow, ho, AO.isRow])
        obtain ⟨xs, k1, k2, k3, k4⟩ := hrel.obj id _ ho
        rcases hob : own (m id) with _ | b
        · -- nil: nothing to freeze
          have hnb : ∀ b, own (m id) ≠ some b := fun b h => by rw [hob] at h; cases h
          obtain ⟨r1, r2⟩ := hrel.turn (o' := .frow e s els) (J := I) ho rfl rfl rfl (fun e' s' els' h => by rcases h with h | h <;> cases h; exact ⟨els, .inl rfl⟩) (.refl I) (fun _ _ => ⟨rfl, rfl⟩) hrel.sat ⟨xs, k1, k2, k3, fun b hb => absurd hb (hnb b)⟩
          rw [hm] at k1 hnb
          exact ⟨I, r2, r1, rd_row k1 k2 k3 (fun b hb => absurd hb (hnb b)), by simp⟩
        · obtain ⟨n1, n2⟩ := k4 b hob
          let J := I.withCells b xs
          have hJc : ∀ (j : Nat) x, xs[j]? = some x → J.cell b j = some x := fun j x hx => by simp [J, Imm.withCells, hx]
          have hle : I.le J := ⟨fun b' o u hc => by
            by_cases hb' : b' = b
            · subst hb'; rw [n1 o] at hc; cases hc
            · simp [J, Imm.withCells, hb', hc], fun _ _ h => h, fun _ h => h⟩
          have hout : ∀ b', some b ≠ some b' → J.cell b' = I.cell b' ∧ J.mp b' = I.mp b' := fun b' hb' => ⟨by funext o; simp [J, Imm.withCells, show b' ≠ b from fun e => hb' (by rw [e])], rfl⟩
          have hcells : ∀ (j : Nat) x, xs[j]? = some x → w.cell? ⟨b, j, none⟩ = some x := by
            rw [hm] at k1 hob
            cases A with
            | none => simp [own] at hob
            | some a =>
              obtain ⟨q, _⟩ : ∃ cap, (Value.slice (some a) n c) = .slice (some ⟨b, 0, none⟩) els.length cap ∧ True := by
                rcases k1.2 with ⟨q, _⟩ | ⟨g, cap, cur, q, _⟩
                · cases q
                · rw [q] at hob; simp [own] at hob; subst hob; exact ⟨cap, q, trivial⟩
              rename_i hq
              rw [hq.1] at k1
              exact row_cells k1
          have hsat : SatI w J := ⟨fun b' o u hc => by
            by_cases hb' : b' = b
            · subst hb'
              simp only [J, Imm.withCells, if_true] at hc
              cases hx : xs[o]? with
              | none => simp only [hx] at hc; rw [n1 o] at hc; cases hc
              | some x => simp only [hx] at hc; injection hc with hc; subst hc; exact hcells o x hx
            · simp only [J, Imm.withCells, if_neg hb'] at hc; exact hrel.sat.cell b' o u hc, hrel.sat.mp, hrel.sat.df, fun g d h => (hrel.sat.glob g d h).mono hle⟩
          obtain ⟨r1, r2⟩ := hrel.turn (o' := .frow e s els) (J := J) ho rfl rfl rfl (fun e' s' els' h => by rcases h with h | h <;> cases h; exact ⟨els, .inl rfl⟩) hle (fun b' hb' => hout b' (fun e => hb' (hob.trans e))) hsat
            ⟨xs, k1, k2, fun j x y hx hy => (k3 j x y hx hy).mono hle, fun b' hb' => by
              rw [hob] at hb'; injection hb' with hb'; subst hb'
              exact ⟨n2, hJc, fun j hj => by simp only [J, Imm.withCells, if_true, List.getElem?_eq_none hj]; exact n1 j⟩⟩
          rw [hm] at k1 hob
          exact ⟨J, r2, r1, rd_row k1 k2 (fun j x y hx hy => (k3 j x y hx hy).mono hle) (fun b' hb' => by rw [hob] at hb'; injection hb' with hb'; subst hb'; exact hJc), by simp⟩
      | _ => simp [ho] at hd
  | map r id h1 h2 =>
    simp only [toD1] at hd
    cases ho : l[id]? with
    | none => simp [ho] at hd
    | some o =>
      cases o with
      | fmap ks vs =>
        simp only [ho, Option.some.injEq, Prod.mk.injEq] at hd
        obtain ⟨rfl, rfl⟩ := hd
        have hm := h2 (by simp [isRow, ho, AO.isRow])
        obtain ⟨b, es, q1, q2, q3, q4, q5, q6, q7, q8, q9⟩ := hrel.obj id _ ho
        rw [hm] at q1; injection q1 with q1; subst q1
        exact ⟨I, .refl .., hrel, .map b es ks vs q9 q4 q5 q6 q7, rfl⟩
      | map ks vs =>
        simp only [ho, Option.some.injEq, Prod.mk.injEq] at hd
        obtain ⟨rfl, rfl⟩ := hd
        have hm := h2 (by simp [isRow, ho, AO.isRow])
        obtain ⟨b, es, q1, q2, q3, q4, q5, q6, q7, q8⟩ := hrel.obj id _ ho
        have hob : own (m id) = some b := by rw [q1]; rfl
        let J := I.withMap b es
        have hle : I.le J := ⟨fun _ _ _ h => h, fun b' es' hc => by
          by_cases hb' : b' = b
          · subst hb'; rw [q8.2] at hc; cases hc
          · simp [J, Imm.withMap, hb', hc], fun _ h => h⟩
        have hsat : SatI w J := ⟨hrel.sat.cell, fun b' es' hc => by
          by_cases hb' : b' = b
          · subst hb'; simp only [J, Imm.withMap, if_true] at hc; injection hc with hc; subst hc; exact q3
          · simp only [J, Imm.withMap, if_neg hb'] at hc; exact hrel.sat.mp b' es' hc, hrel.sat.df, fun g d h => (hrel.sat.glob g d h).mono hle⟩
        obtain ⟨r1, r2⟩ := hrel.turn (o' := .fmap ks vs) (J := J) ho rfl rfl rfl (fun e' s' els' h => by rcases h with h | h <;> cases h) hle
          (fun b' hb' => ⟨rfl, by simp [J, Imm.withMap, show b' ≠ b from fun e => hb' (by rw [hob, e])]⟩) hsat
          ⟨b, es, q1, q2, q3, q4, q5, fun i e d he hd => (q6 i e d he hd).mono hle, fun i e d he hd => (q7 i e d he hd).mono hle, q8.1, by simp [J, Imm.withMap]⟩
        rw [hm] at q1; injection q1 with q1; subst q1
        exact ⟨J, r2, r1, .map b es ks vs (by simp [J, Imm.withMap]) q4 q5 (fun i e d he hd => (q6 i e d he hd).mono hle) (fun i e d he hd => (q7 i e d he hd).mono hle), by simp⟩
      | _ => simp [ho] at hd
  | _ => simp [toD1] at hd
theorem argsD1_ok : ∀ (ts : List T) (l : List AO) (I : Imm) (vs : List Value) (ds : List D) (l' : List AO), WRel w0 I0 w I m l → vs.length = ts.length → (∀ (i : Nat) v t, vs[i]? = some v → ts[i]? = some t → RdT I m l v t) → argsD1 l ts = some (ds, l') →
    ∃ J, Le I m l J m l' ∧ WRel w0 I0 w J m l' ∧ vs.length = ds.length ∧ (∀ (i : Nat) v d, vs[i]? = some v → ds[i]? = some d → Rd J v d) ∧ l'.length = l.length
  | [], l, I, vs, ds, l', hrel, hl, hr, hd => by
    simp [argsD1] at hd; obtain ⟨rfl, rfl⟩ := hd
    have : vs = [] := List.eq_nil_of_length_eq_zero (by simpa using hl)
    subst this
    exact ⟨I, .refl .., hrel, rfl, by simp, rfl⟩
  | t :: ts, l, I, vs, ds, l', hrel, hl, hr, hd => by
    match vs, hl with
    | v :: vs, hl =>
      simp only [argsD1] at hd
      cases h1 : toD1 l t with
      | none => simp [h1] at hd
      | some p =>
        obtain ⟨x, l1⟩ := p
        simp only [h1] at hd
        cases h2 : argsD1 l1 ts with
        | none => simp [h2] at hd
        | some q =>
          obtain ⟨xs, l2⟩ := q
          simp only [h2, Option.some.injEq, Prod.mk.injEq] at hd
          obtain ⟨rfl, rfl⟩ := hd
          obtain ⟨J1, le1, r1, x1, n1⟩ := toD1_ok hrel (hr 0 v t rfl rfl) h1
          obtain ⟨J2, le2, r2, q1, q2, n2⟩ := argsD1_ok ts l1 J1 vs xs l2 r1 (by simpa using hl) (fun i v t hv ht => (hr (i + 1) v t (by simpa using hv) (by simpa using ht)).mono le1) h2
          refine ⟨J2, le1.trans le2, r2, by simp [q1], fun i u d hu hd' => ?_, by omega⟩
          rcases i with _ | i
          · simp at hu hd'; subst hu; subst hd'; exact x1.mono le2.imm
          · simp at hu hd'; exact q2 i u d hu hd'
theorem toD1_quiet {l : List AO} {t : T} {x : D} {l' : List AO} (hq : quietT1 l t = true) (h : toD1 l t = some (x, l')) : l' = l := by
  cases t <;> simp [quietT1, toD1] at hq h
  · exact h.2.symm
  · exact h.2.symm
  · rename_i id
    cases ho : l[id]? with
    | none => simp [ho] at hq
    | some o => cases o <;> simp [ho] at hq h; exact h.2.symm
  · rename_i id
    cases ho : l[id]? with
    | none => simp [ho] at hq
    | some o => cases o <;> simp [ho] at hq h; exact h.2.symm
theorem argsD1_quiet : ∀ (ts : List T) {l : List AO} {ds : List D} {l' : List AO}, ts.all (quietT1 l) = true → argsD1 l ts = some (ds, l') → l' = l
  | [], l, ds, l', _, h => by simp [argsD1] at h; exact h.2.symm
  | t :: ts, l, ds, l', hq, h => by
    simp only [List.all_cons, Bool.and_eq_true] at hq
    simp only [argsD1] at h
    cases h1 : toD1 l t with
    | none => simp [h1] at h
    | some p =>
      obtain ⟨x, l1⟩ := p
      simp only [h1] at h
      have := toD1_quiet hq.1 h1
      subst this
      cases h2 : argsD1 l1 ts with
      | none => simp [h2] at h
      | some q =>
        obtain ⟨xs, l2⟩ := q
        simp only [h2, Option.some.injEq, Prod.mk.injEq] at h
        rw [← h.2]; exact argsD1_quiet ts hq.2 h2
theorem toD1_com {l L : List AO} (hc : Com l L) {t : T} {x : D} {l' : List AO} (hq : quietT1 l t = true) (h : toD1 l t = some (x, l')) : toD1 L t = some (x, L) ∧ quietT1 L t = true := by
  cases t <;> simp [quietT1, toD1] at hq h ⊢
  · exact h.1
  · exact h.1
  · rename_i id
    cases ho : l[id]? with
    | none => simp [ho] at hq
    | some o => cases o <;> simp [ho] at hq h; simp [hc.get ho, h.1]
  · rename_i id
    cases ho : l[id]? with
    | none => simp [ho] at hq
    | some o => cases o <;> simp [ho] at hq h; simp [hc.get ho, h.1]
theorem argsD1_com : ∀ (ts : List T) {l L : List AO} {ds : List D} {l' : List AO}, Com l L → ts.all (quietT1 l) = true → argsD1 l ts = some (ds, l') → argsD1 L ts = some (ds, L)
  | [], l, L, ds, l', _, _, h => by simp [argsD1] at h ⊢; exact h.1
  | t :: ts, l, L, ds, l', hc, hq, h => by
    simp only [List.all_cons, Bool.and_eq_true] at hq
    simp only [argsD1] at h ⊢
    cases h1 : toD1 l t with
    | none => simp [h1] at h
    | some p =>
      obtain ⟨x, l1⟩ := p
      simp only [h1] at h
      have := toD1_quiet hq.1 h1
      subst this
      cases h2 : argsD1 l1 ts with
      | none => simp [h2] at h
      | some q =>
        obtain ⟨xs, l2⟩ := q
        simp only [h2, Option.some.injEq, Prod.mk.injEq] at h
        rw [(toD1_com hc hq.1 h1).1]
        simp only [argsD1_com ts hc hq.2 h2, h.1]
theorem quietT1_com {l L : List AO} (hc : Com l L) {t : T} (hq : quietT1 l t = true) : quietT1 L t = true := by
  cases t <;> simp [quietT1] at hq ⊢
  · rename_i id
    cases ho : l[id]? with
    | none => simp [ho] at hq
    | some o => cases o <;> simp [ho] at hq; simp [hc.get ho]
  · rename_i id
    cases ho : l[id]? with
    | none => simp [ho] at hq
    | some o => cases o <;> simp [ho] at hq; simp [hc.get ho]
theorem rdT_cells {v : Value} {ts : List T} (h : RdT I m l v (.agg ts)) : ∃ vs : Array Value, v = .agg vs ∧ vs.size = ts.length ∧ (∀ (i : Nat) v, vs[i]? = some v → v.oneCell' = true) ∧ ∀ (i : Nat) v t, vs[i]? = some v → ts[i]? = some t → RdT I m l v t := by
  cases h with
  | agg vs _ h1 h2 h3 => exact ⟨vs, rfl, h1, h2, h3⟩
theorem toD_agg {l : List AO} {ts : List T} {x : D} {l' : List AO} (h : toD l (.agg ts) = some (x, l')) : ∃ ds, x = .agg ds ∧ argsD1 l ts = some (ds, l') := by
  simp only [toD] at h
  cases h1 : argsD1 l ts with
  | none => rw [h1] at h; cases h
  | some p =>
    obtain ⟨ds, l1⟩ := p
    rw [h1] at h; simp at h
    exact ⟨ds, h.1.symm, by rw [h.2]⟩
theorem toD_one {l : List AO} {t : T} (h : ∀ ts, t ≠ .agg ts) : toD l t = toD1 l t := by
  cases t <;> first | rfl | exact absurd rfl (h _)
theorem quietT_one {l : List AO} {t : T} (h : ∀ ts, t ≠ .agg ts) : quietT l t = quietT1 l t := by
  cases t <;> first | rfl | exact absurd rfl (h _)
theorem toD_ok (hrel : WRel w0 I0 w I m l) {v : Value} {t : T} {x : D} {l' : List AO} (ht : RdT I m l v t) (hd : toD l t = some (x, l')) : ∃ J, Le I m l J m l' ∧ WRel w0 I0 w J m l' ∧ Rd J v x ∧ l'.length = l.length := by
  by_cases ha : ∃ ts, t = .agg ts
  · obtain ⟨ts, rfl⟩ := ha
    obtain ⟨ds, rfl, hds⟩ := toD_agg hd
    obtain ⟨vs, rfl, h1, h2, h3⟩ := rdT_cells ht
    obtain ⟨J, le, r1, q1, q2, q3⟩ := argsD1_ok ts l I vs.toList ds l' hrel (by simpa using h1) (fun i v t hv ht => h3 i v t (by simpa using hv) ht) hds
    have q1' : vs.size = ds.length := by simpa using q1
    refine ⟨J, le, r1, .agg vs ds q1' (fun d hd => ?_) (fun i v d hv hd => q2 i v d (by simpa using hv) hd), q3⟩
    obtain ⟨i, hi, rfl⟩ := List.mem_iff_getElem.1 hd
    have hv : vs[i]? = some (vs[i]'(by omega)) := Array.getElem?_eq_getElem (by omega)
    exact (q2 i _ _ (by simpa using hv) (List.getElem?_eq_getElem hi)).one' (h2 i _ hv)
  · rw [toD_one fun ts h => ha ⟨ts, h⟩] at hd
    exact toD1_ok hrel ht hd
theorem argsD_ok : ∀ (ts : List T) (l : List AO) (I : Imm) (vs : List Value) (ds : List D) (l' : List AO), WRel w0 I0 w I m l → vs.length = ts.length → (∀ (i : Nat) v t, vs[i]? = some v → ts[i]? = some t → RdT I m l v t) → argsD l ts = some (ds, l') →
    ∃ J, Le I m l J m l' ∧ WRel w0 I0 w J m l' ∧ vs.length = ds.length ∧ (∀ (i : Nat) v d, vs[i]? = some v → ds[i]? = some d → Rd J v d) ∧ l'.length = l.length
  | [], l, I, vs, ds, l', hrel, hl, hr, hd => by
    simp [argsD] at hd; obtain ⟨rfl, rfl⟩ := hd
    have : vs = [] := List.eq_nil_of_length_eq_zero (by simpa using hl)
    subst this
    exact ⟨I, .refl .., hrel, rfl, by simp, rfl⟩
  | t :: ts, l, I, vs, ds, l', hrel, hl, hr, hd => by
    match vs, hl with
    | v :: vs, hl =>
      simp only [argsD] at hd
      cases h1 : toD l t with
      | none => simp [h1] at hd
      | some p =>
        obtain ⟨x, l1⟩ := p
        simp only [h1] at hd
        cases h2 : argsD l1 ts with
        | none => simp [h2] at hd
        | some q =>
          obtain ⟨xs, l2⟩ := q
          simp only [h2, Option.some.injEq, Prod.mk.injEq] at hd
          obtain ⟨rfl, rfl⟩ := hd
          obtain ⟨J1, le1, r1, x1, n1⟩ := toD_ok hrel (hr 0 v t rfl rfl) h1
          obtain ⟨J2, le2, r2, q1, q2, n2⟩ := argsD_ok ts l1 J1 vs xs l2 r1 (by simpa using hl) (fun i v t hv ht => (hr (i + 1) v t (by simpa using hv) (by simpa using ht)).mono le1) h2
          refine ⟨J2, le1.trans le2, r2, by simp [q1], fun i u d hu hd' => ?_, by omega⟩
          rcases i with _ | i
          · simp at hu hd'; subst hu; subst hd'; exact x1.mono le2.imm
          · simp at hu hd'; exact q2 i u d hu hd'
theorem toD_quiet {l : List AO} {t : T} {x : D} {l' : List AO} (hq : quietT l t = true) (h : toD l t = some (x, l')) : l' = l := by
  by_cases ha : ∃ ts, t = .agg ts
  · obtain ⟨ts, rfl⟩ := ha
    obtain ⟨ds, rfl, hds⟩ := toD_agg h
    exact argsD1_quiet ts hq hds
  · rw [toD_one fun ts h => ha ⟨ts, h⟩] at h
    rw [quietT_one fun ts h => ha ⟨ts, h⟩] at hq
    exact toD1_quiet hq h
theorem argsD_quiet : ∀ (ts : List T) {l : List AO} {ds : List D} {l' : List AO}, ts.all (quietT l) = true → argsD l ts = some (ds, l') → l' = l
  | [], l, ds, l', _, h => by simp [argsD] at h; exact h.2.symm
  | t :: ts, l, ds, l', hq, h => by
    simp only [List.all_cons, Bool.and_eq_true] at hq
    simp only [argsD] at h
    cases h1 : toD l t with
    | none => simp [h1] at h
    | some p =>
      obtain ⟨x, l1⟩ := p
      simp only [h1] at h
      have := toD_quiet hq.1 h1
      subst this
      cases h2 : argsD l1 ts with
      | none => simp [h2] at h
      | some q =>
        obtain ⟨xs, l2⟩ := q
        simp only [h2, Option.some.injEq, Prod.mk.injEq] at h
        rw [← h.2]; exact argsD_quiet ts hq.2 h2
theorem toD_com {l L : List AO} (hc : Com l L) {t : T} {x : D} {l' : List AO} (hq : quietT l t = true) (h : toD l t = some (x, l')) : toD L t = some (x, L) ∧ quietT L t = true := by
  by_cases ha : ∃ ts, t = .agg ts
  · obtain ⟨ts, rfl⟩ := ha
    obtain ⟨ds, rfl, hds⟩ := toD_agg h
    refine ⟨by simp only [toD, argsD1_com ts hc hq hds], ?_⟩
    simp only [quietT, List.all_eq_true] at hq ⊢
    intro t ht
    exact quietT1_com hc (hq t ht)
  · rw [toD_one fun ts h => ha ⟨ts, h⟩] at h ⊢
    rw [quietT_one fun ts h => ha ⟨ts, h⟩] at hq ⊢
    exact toD1_com hc hq h
theorem argsD_com : ∀ (ts : List T) {l L : List AO} {ds : List D} {l' : List AO}, Com l L → ts.all (quietT l) = true → argsD l ts = some (ds, l') → argsD L ts = some (ds, L)
  | [], l, L, ds, l', _, _, h => by simp [argsD] at h ⊢; exact h.1
  | t :: ts, l, L, ds, l', hc, hq, h => by
    simp only [List.all_cons, Bool.and_eq_true] at hq
    simp only [argsD] at h ⊢
    cases h1 : toD l t with
    | none => simp [h1] at h
    | some p =>
      obtain ⟨x, l1⟩ := p
      simp only [h1] at h
      have := toD_quiet hq.1 h1
      subst this
      cases h2 : argsD l1 ts with
      | none => simp [h2] at h
      | some q =>
        obtain ⟨xs, l2⟩ := q
        simp only [h2, Option.some.injEq, Prod.mk.injEq] at h
        rw [(toD_com hc hq.1 h1).1]
        simp only [argsD_com ts hc hq.2 h2, h.1]
end
end Go.Eva
namespace Go.Eva
open Go Go.RowKit
variable [Drw]
def RSound (P : Program) (w0 : World) (I0 : Imm) (o : Oper) (ρ : Operand → Value) (w : World) (I : Imm) (m : Nat → Value) (l L : List AO) (nid : Nat) (r : R) : Prop :=
  match r.eff with
  | .none => StepOk P ((execOp ρ o).run P w) fun v w' => ∃ J, Le I m L J m L ∧ WRel w0 I0 w' J m L ∧ RdT J m L v r.t
  | .new a => L[nid]? = some .dead → StepOk P ((execOp ρ o).run P w) fun v w' => ∃ m', Le I m L I m' (L.set nid a) ∧ WRel w0 I0 w' I m' (L.set nid a) ∧ RdT I m' (L.set nid a) v r.t
  | .upd l' => L = l → nid = l.length → StepOk P ((execOp ρ o).run P w) fun v w' => ∃ J m', Le I m l J m' l' ∧ WRel w0 I0 w' J m' l' ∧ RdT J m' l' v r.t
section
variable {P : Program} {V : Env} {w0 w : World} {I0 I : Imm} {m : Nat → Value} {l L : List AO} {nid : Nat} {o : Oper} {ρ : Operand → Value} {ρT : Operand → T}
theorem RSound.val (hrel : WRel w0 I0 w I m L) {r : R} {u : Value} (he : r.eff = .none) (hx : (execOp ρ o).run P w = .ok (.value u) w) (hr : RdT I m L u r.t) : RSound P w0 I0 o ρ w I m l L nid r := by
  unfold RSound
  rw [he]
  simp only [hx, StepOk]
  exact ⟨I, .refl .., hrel, hr⟩
theorem rdD {v : Value} {x : D} (h : RdT I m L v (.d x)) : Rd I v x := by cases h; assumption
theorem rdCond {v : Value} {pc : List (Nat × Bool × Bool)} {t : T} (h : RdT I m L v (.cond pc t)) (hp : holds pc) : RdT I m L v t := by cases h; rename_i _ hh; exact hh hp
theorem pick_ok (hrel : WRel w0 I0 w I m L) {c a b : Operand} (ho : o.op = .pick c a b) (hr : ∀ x ∈ o.op.operands, RdT I m L (ρ x) (ρT x)) (hob : (pickT (ρT c) (ρT a) (ρT b)).ob) :
    RSound P w0 I0 o ρ w I m l L nid (pickT (ρT c) (ρT a) (ρT b)) := by
  have hc := hr c (by simp [ho, Op.operands])
  have ha := hr a (by simp [ho, Op.operands])
  have hb := hr b (by simp [ho, Op.operands])
  generalize ρT c = tc at *; generalize ρT a = ta at *; generalize ρT b = tb at *
  unfold pickT at hob ⊢
  split at hob
  · rename_i cc
    have := rdD hc
    generalize hρc : ρ c = vc at *
    cases this
    simp only at hob ⊢
    split at hob
    · rename_i x p y q hx hy
      have hx' : cc = true → Rd I (ρ a) (.bool x) := by
        intro hcc
        split at hx
        · simp at hx; obtain ⟨rfl, _⟩ := hx; exact rdD ha
        · rename_i pc x'
          simp only [Option.some.injEq, Prod.mk.injEq] at hx; obtain ⟨rfl, rfl⟩ := hx
          exact rdD (rdCond ha (hob.1 hcc))
        · cases hx
      have hy' : cc = false → Rd I (ρ b) (.bool y) := by
        intro hcc
        split at hy
        · simp at hy; obtain ⟨rfl, _⟩ := hy; exact rdD hb
        · rename_i pc x'
          simp only [Option.some.injEq, Prod.mk.injEq] at hy; obtain ⟨rfl, rfl⟩ := hy
          exact rdD (rdCond hb (hob.2 hcc))
        · cases hy
      refine RSound.val hrel rfl (u := if cc = true then ρ a else ρ b) ?_ ?_
      · unfold execOp; simp only [ho, hρc, asBool, Sem.run_bind, Sem.run_pure, Result.andThen_ok]
      · cases cc with
        | true => simpa using RdT.d _ _ (hx' rfl)
        | false => simpa using RdT.d _ _ (hy' rfl)
    · rename_i x p hx hy
      obtain ⟨hcc, hob⟩ := hob
      subst hcc
      have hx' : Rd I (ρ a) (.bool x) := by
        split at hx
        · simp at hx; obtain ⟨rfl, _⟩ := hx; exact rdD ha
        · rename_i pc x'
          simp only [Option.some.injEq, Prod.mk.injEq] at hx; obtain ⟨rfl, rfl⟩ := hx
          exact rdD (rdCond ha (hob trivial))
        · cases hx
      refine RSound.val hrel rfl (u := ρ a) ?_ (.d _ _ hx')
      unfold execOp; simp only [ho, hρc, asBool, Sem.run_bind, Sem.run_pure, Result.andThen_ok, if_true]
    · rename_i y q hx hy
      obtain ⟨hcc, hob⟩ := hob
      subst hcc
      have hy' : Rd I (ρ b) (.bool y) := by
        split at hy
        · simp at hy; obtain ⟨rfl, _⟩ := hy; exact rdD hb
        · rename_i pc x'
          simp only [Option.some.injEq, Prod.mk.injEq] at hy; obtain ⟨rfl, rfl⟩ := hy
          exact rdD (rdCond hb (hob trivial))
        · cases hy
      refine RSound.val hrel rfl (u := ρ b) ?_ (.d _ _ hy')
      unfold execOp; simp only [ho, hρc, asBool, Sem.run_bind, Sem.run_pure, Result.andThen_ok, Bool.false_eq_true, if_false]
    · exact hob.elim
  · exact hob.elim
theorem cells_all {v : Value} {x : T} (hx : RdT I m L v x) (h1 : (cellsT x).all T.oneT = true) : v.cells.toList.length = (cellsT x).length ∧ (∀ u ∈ v.cells.toList, u.oneCell' = true) ∧ ∀ (i : Nat) u t, v.cells.toList[i]? = some u → (cellsT x)[i]? = some t → RdT I m L u t := by
  have one : ∀ (u : Value), u.oneCell' = true → u.cells.toList = [u] := fun u hu => by cases u <;> simp_all [Value.oneCell', Value.cells]
  have single : ∀ (t : T), cellsT t = [t] → RdT I m L v t → v.oneCell' = true → v.cells.toList.length = (cellsT t).length ∧ (∀ u ∈ v.cells.toList, u.oneCell' = true) ∧ ∀ (i : Nat) u s, v.cells.toList[i]? = some u → (cellsT t)[i]? = some s → RdT I m L u s := by
    intro t ht hr hv
    rw [one v hv, ht]
    refine ⟨rfl, by simpa using hv, fun i u s hu hs => ?_⟩
    rcases i with _ | i
    · simp at hu hs; subst hu; subst hs; exact hr
    · simp at hu
  cases hx with
  | undef => simp [cellsT, T.oneT] at h1
  | d _ d hd =>
    by_cases ht : ∃ ds, d = .tup ds
    · obtain ⟨ds, rfl⟩ := ht; simp [cellsT, D.cells, T.oneT, D.one] at h1
    · obtain ⟨q1, q2, q3⟩ := hd.cells (fun ds e => ht ⟨ds, e⟩)
      refine ⟨by simp [cellsT, q1], fun u hu => ?_, fun i u t hu ht' => ?_⟩
      · obtain ⟨i, hi, rfl⟩ := List.mem_iff_getElem.1 hu
        have hi' : i < d.cells.length := by simp at hi; omega
        exact (q3 i _ d.cells[i] (by rw [← Array.getElem?_toList]; exact List.getElem?_eq_getElem hi) (List.getElem?_eq_getElem hi')).one (q2 _ (List.getElem_mem hi'))
      · simp only [cellsT, List.getElem?_map] at ht'
        cases hd' : d.cells[i]? with
        | none => simp [hd'] at ht'
        | some y =>
          simp [hd'] at ht'
          subst ht'
          exact .d _ _ (q3 i u y (by simpa using hu) hd')
  | nils s => exact single _ rfl (.nils s) rfl
  | ptr id b off q1 q2 => exact single _ rfl (.ptr id b off q1 q2) rfl
  | eptr b o size els k off val q1 q2 q3 q4 => exact single _ rfl (.eptr b o size els k off val q1 q2 q3 q4) rfl
  | tup => simp [cellsT, T.oneT] at h1
  | cond => simp [cellsT, T.oneT] at h1
  | row A n c id q1 q2 => exact single _ rfl (.row A n c id q1 q2) rfl
  | rptr a id k off q1 q2 => exact single _ rfl (.rptr a id k off q1 q2) rfl
  | map r id q1 q2 => exact single _ rfl (.map r id q1 q2) rfl
  | clo g vs ts q1 q2 => exact single _ rfl (.clo g vs ts q1 q2) rfl
  | yld id b q1 q2 => exact single _ rfl (.yld id b q1 q2) rfl
  | sub A n c id lo hi q1 q2 => exact single _ rfl (.sub A n c id lo hi q1 q2) rfl
  | agg vs ts q1 q2 q3 =>
    refine ⟨by simp [cellsT, Value.cells, q1], fun u hu => ?_, fun i u t hu ht => q3 i u t (by simpa [Value.cells] using hu) (by simpa [cellsT] using ht)⟩
    obtain ⟨i, hi, rfl⟩ := List.mem_iff_getElem.1 hu
    simp only [Value.cells] at hi ⊢
    exact q2 i _ (by rw [← Array.getElem?_toList]; exact List.getElem?_eq_getElem hi)
theorem newVar_ok (hrel : WRel w0 I0 w I m L) (hn : L[nid]? = some .dead) {ty : TypeId} {vs : Array Value} {cs : List T} (hl : vs.toList.length = cs.length) (h1 : ∀ u ∈ vs.toList, u.oneCell' = true)
    (hr : ∀ (i : Nat) u t, vs.toList[i]? = some u → cs[i]? = some t → RdT I m L u t) :
    ∃ m', Le I m L I m' (L.set nid (.var ty cs)) ∧ WRel w0 I0 (w.alloc (.cells vs ty)) I m' (L.set nid (.var ty cs)) ∧ RdT I m' (L.set nid (.var ty cs)) (.pointer (some ⟨w.heap.size, 0, none⟩)) (.ptr nid 0) := by
  have hle : Le I m L I (upd m nid (.pointer (some ⟨w.heap.size, 0, none⟩))) (L.set nid (.var ty cs)) := Le.new hn rfl
  have hlt : nid < L.length := (List.getElem?_eq_some_iff.1 hn).1
  refine ⟨_, hle, hrel.alloc _ hn rfl rfl ⟨w.heap.size, vs, rfl, hrel.below.size, heap_alloc_new w _, by simpa using hl, fun i x t hx ht => ?_, hrel.sat.noB (Nat.le_refl _)⟩, ?_⟩
  · exact ⟨(hr i x t (by simpa using hx) ht).mono hle, h1 x (List.mem_of_getElem? (by simpa using hx : vs.toList[i]? = some x))⟩
  · exact .ptr nid _ 0 (by unfold isVar; rw [List.getElem?_set, if_pos rfl, if_pos hlt]; rfl) (upd_same m nid _)
theorem box_ok (hrel : WRel w0 I0 w I m L) {e : TypeId} {x : Operand} (ho : o.op = .box e x) (hr : RdT I m L (ρ x) (ρT x)) (h1 : (cellsT (ρT x)).all T.oneT = true) :
    RSound P w0 I0 o ρ w I m l L nid ⟨.ptr nid 0, .new (.var e (cellsT (ρT x))), (cellsT (ρT x)).all T.oneT = true⟩ := by
  intro hn
  obtain ⟨c1, c2, c3⟩ := cells_all hr h1
  have hx : (execOp ρ o).run P w = .ok (.value (.pointer (some ⟨w.heap.size, 0, none⟩))) (w.alloc (.cells (ρ x).cells e)) := by
    unfold execOp; simp [ho, Instr.box, newVar, newRow]
  simp only [hx, StepOk]
  exact newVar_ok hrel hn c1 c2 c3
theorem zerosOk_cell : ∀ {vs : List Value} {ds : List D} {j : Nat} {v : Value} {d : D}, zerosOk vs ds = true → vs[j]? = some v → ds[j]? = some d → zeroCellD v d = true
  | [], [], _, _, _, _, h, _ => by simp at h
  | v :: vs, d :: ds, j, u, e, h, hu, hd => by
    simp only [zerosOk, Bool.and_eq_true] at h
    rcases j with _ | j
    · simp at hu hd; subst hu; subst hd; exact h.1
    · simp at hu hd; exact zerosOk_cell h.2 hu hd
  | [], _ :: _, _, _, _, h, _, _ => by simp [zerosOk] at h
  | _ :: _, [], _, _, _, h, _, _ => by simp [zerosOk] at h
theorem zeroT_rd {v : Value} {d : D} (h : zeroCellD v d = true) : RdT I m L v (zeroT d) := by
  unfold zeroT
  split
  · have : v = .slice none 0 0 := by
      cases v <;> simp [zeroCellD] at h
      rename_i a n c
      cases a <;> cases n <;> cases c <;> simp_all [zeroCellD]
    subst this; exact .nils _
  · exact .d _ _ (zeroCellD_rd I h).1
theorem alloc_ok (hE : TOk P V.E) (hrel : WRel w0 I0 w I m L) {e : TypeId} {i : TI} (ho : o.op = .alloc e) (hi : V.E e = some i) :
    RSound P w0 I0 o ρ w I m l L nid ⟨.ptr nid 0, .new (.var e (i.zero.map zeroT)), True⟩ := by
  intro hn
  obtain ⟨z, h1, h2, h3, h4⟩ := run_zero_ti hE hi w
  obtain ⟨q1, q2, q3⟩ := zerosOk_rd I _ _ h2
  have hx : (execOp ρ o).run P w = .ok (.value (.pointer (some ⟨w.heap.size, 0, none⟩))) (w.alloc (.cells z.cells e)) := by
    unfold execOp; simp [ho, Instr.alloc, h1, newVar, newRow]
  simp only [hx, StepOk]
  refine newVar_ok hrel hn (by simpa using q1) (fun u hu => ?_) (fun j u t hu ht => ?_)
  · obtain ⟨j, hj, rfl⟩ := List.mem_iff_getElem.1 hu
    have hj' : j < i.zero.length := by omega
    exact (q3 j _ _ (List.getElem?_eq_getElem hj) (List.getElem?_eq_getElem hj')).one (q2 _ (List.getElem_mem hj'))
  · rw [List.getElem?_map] at ht
    cases hz : i.zero[j]? with
    | none => simp [hz] at ht
    | some d => simp [hz] at ht; subst ht; exact zeroT_rd (zerosOk_cell h2 hu hz)
theorem field_ok (hE : TOk P V.E) {s : TypeId} {f : Nat} {v : Value} {x : T} (hx : RdT I m L v x) (hob : (fieldP V.E s f x).ob) :
    (fieldP V.E s f x).eff = .none ∧ ∃ u, (Instr.fieldAt s v f).run P w = .ok u w ∧ RdT I m L u (fieldP V.E s f x).t := by
  have key : ∀ {a : Addr} {sz bt : Nat} {z : List D} {fs : List (Nat × TypeId)} {p : Nat × TypeId}, V.E s = some ⟨sz, bt, z, .struct fs⟩ → fs[f]? = some p → 0 < sizeE V.E p.2 →
      (Instr.fieldAt s (.pointer (some a)) f).run P w = .ok (.pointer (some (a.add p.1))) w := by
    intro a sz bt z fs p hs hp hpos
    obtain ⟨gs, hu, rfl⟩ := underlying_struct hE hs
    rw [List.getElem?_map] at hp
    cases hg : gs.toList[f]? with
    | none => simp [hg] at hp
    | some g =>
      simp [hg] at hp
      subst hp
      have hg' : gs[f]? = some g := by simpa using hg
      have hsz : ∃ n, (sizeOf g.type).run P w = .ok n w ∧ n ≠ 0 := by
        cases hi : V.E g.type with
        | none => simp [sizeE, hi] at hpos
        | some i => exact ⟨i.size, run_sizeOf_ti hE hi w, by simp [sizeE, hi] at hpos; omega⟩
      obtain ⟨n, hn, hne⟩ := hsz
      simp [Instr.fieldAt, run_underlying hu, hg', Instr.sureAddr, fieldPlace, hn, hne]
  cases hx with
  | ptr id b off q1 q2 =>
    simp only [fieldP] at hob ⊢
    split at hob
    · rename_i fs hs
      split at hob
      · rename_i p hp
        split at hob
        · rename_i hpos
          simp only [if_pos hpos]
          exact ⟨rfl, _, key hs hp hpos, by rw [Addr.add_mid]; exact .ptr id b _ q1 q2⟩
        · exact hob.elim
      · exact hob.elim
    · exact hob.elim
  | eptr b o size els k off val q1 q2 q3 q4 =>
    simp only [fieldP] at hob ⊢
    split at hob
    · rename_i fs hs
      split at hob
      · rename_i p hp
        split at hob
        · rename_i hpos
          simp only [if_pos hpos]
          refine ⟨rfl, _, key hs hp hpos, ?_⟩
          rw [Addr.add_mid, Nat.add_assoc]
          exact .eptr b o size els k _ val q1 q2 q3 q4
        · exact hob.elim
      · exact hob.elim
    · exact hob.elim
  | rptr a id k off q1 q2 =>
    simp only [fieldP] at hob ⊢
    split at hob
    · rename_i fs hs
      split at hob
      · rename_i p hp
        split at hob
        · rename_i hpos
          simp only [if_pos hpos]
          refine ⟨rfl, _, key hs hp hpos, .rptr _ id k _ q1 fun e size els hl => ?_⟩
          obtain ⟨b, n, c, h1, rfl⟩ := q2 e size els hl
          exact ⟨b, n, c, h1, by rw [Addr.add_mid, Nat.add_assoc]⟩
        · exact hob.elim
      · exact hob.elim
    · exact hob.elim
  | _ => exact hob.elim
end
end Go.Eva
namespace Go.Eva
open Go Go.RowKit
variable [Drw]
section
variable {P : Program} {V : Env} {w0 w : World} {I0 I : Imm} {m : Nat → Value} {l L : List AO} {nid : Nat} {o : Oper} {ρ : Operand → Value} {ρT : Operand → T}
theorem fieldV_ok (hE : TOk P V.E) {s : TypeId} {f : Nat} {v : Value} {x : T} (hx : RdT I m L v x) (hob : (fieldV V.E s f x).ob) :
    (fieldV V.E s f x).eff = .none ∧ ∃ u, (Instr.field s v f).run P w = .ok u w ∧ RdT I m L u (fieldV V.E s f x).t := by
  unfold fieldV at hob ⊢
  split at hob
  · rename_i cs
    split at hob
    · rename_i fs hs
      split at hob
      · rename_i p hp
        split at hob
        · rename_i i hi
          split at hob
          · rename_i hle
            simp only [if_pos hle]
            have := rdD hx
            generalize hD : D.agg cs = dd at this
            cases this <;> first | (cases hD; done) | skip
            rename_i vs ds q1 q2 q3
            injection hD with hD; subst hD
            obtain ⟨gs, hu, rfl⟩ := underlying_struct hE hs
            rw [List.getElem?_map] at hp
            cases hg : gs.toList[f]? with
            | none => simp [hg] at hp
            | some g =>
              simp [hg] at hp; subst hp
              have hg' : gs[f]? = some g := by simpa using hg
              simp only at hi hle ⊢
              have hagg := run_isAgg_ti hE hi
              have hsz := run_sizeOf_ti hE hi
              cases ha : i.desc.agg with
              | true =>
                refine ⟨rfl, .agg (vs.extract g.offset (g.offset + i.size)), ?_, ?_⟩
                · simp only [Instr.field, Sem.run_bind, run_underlying hu, Result.andThen_ok, hg', asAgg, Sem.run_pure, part, hagg, ha, if_true, hsz]
                · simp only [R.ok, mkD, if_true]
                  refine .d _ _ (.agg _ _ (by simp [q1]; omega) (fun d hd => q2 d (List.mem_of_mem_drop (List.mem_of_mem_take hd))) (fun j u d hu' hd' => ?_))
                  rw [List.getElem?_take] at hd'
                  split at hd'
                  · rename_i hj
                    rw [List.getElem?_drop] at hd'
                    rw [Array.getElem?_extract] at hu'
                    split at hu'
                    · exact q3 _ u d hu' hd'
                    · cases hu'
                  · cases hd'
              | false =>
                have h1 := ti_size_one hE hi ha
                have hlt : g.offset < vs.size := by omega
                refine ⟨rfl, vs[g.offset], ?_, ?_⟩
                · simp only [Instr.field, Sem.run_bind, run_underlying hu, Result.andThen_ok, hg', asAgg, Sem.run_pure, part, hagg, ha, Bool.false_eq_true, if_false, Array.getElem?_eq_getElem hlt]
                · have hlt' : g.offset < cs.length := by omega
                  have : ((cs.drop g.offset).take i.size).headD .nilp = cs[g.offset] := by
                    rw [h1, List.drop_eq_getElem_cons hlt']; rfl
                  simp only [R.ok, mkD, Bool.false_eq_true, if_false, this]
                  exact .d _ _ (q3 g.offset _ _ (Array.getElem?_eq_getElem hlt) (List.getElem?_eq_getElem hlt'))
          · exact hob.elim
        · exact hob.elim
      · exact hob.elim
    · exact hob.elim
  · exact hob.elim
theorem wrap64_id {n : Int} (h : -9223372036854775808 ≤ n ∧ n ≤ 9223372036854775807) : IntKind.i64.wrap n = n := IntWalk.i64_in n (by omega)
theorem arith_ok {k : IntKind} {n : Int} (h : (arith k n).2) : (arith k n).1 = .int k (k.wrap n) := by
  cases k <;> simp only [arith] at h ⊢
  rw [wrap64_id h]
theorem bin_ok (hEq : EqOk P V.okEq) {op : BinOp} {ty : TypeId} {x y : Operand} {u v : Value} {a b : D} (ha : Rd I u a) (hb : Rd I v b) {r : D} {ob : Prop} (h : binD V.okEq op ty a b = some (r, ob)) (hob : ob) :
    ∃ z, ((do eqGuard op ty x y u v; binOp op ty u v : Sem Value)).run P w = .ok z w ∧ Rd I z r := by
  unfold binD at h
  split at h
  · -- ints
    rename_i k p k' q
    cases ha; cases hb
    split at h
    · cases h
    · rename_i hk
      have hk : k = k' := Decidable.not_not.1 hk
      subst hk
      have hg : ∀ w, (eqGuard op ty x y (.int k p) (.int k q)).run P w = .ok () w := fun w => by rw [eqGuard_at_int]; rfl
      simp only [Sem.run_bind, hg, Result.andThen_ok]
      split at h <;> first | (cases h; done) | skip
      all_goals try simp only [Option.some.injEq, Prod.mk.injEq] at h
      · obtain ⟨rfl, rfl⟩ := h; exact ⟨_, by rw [binOp_add]; rfl, by rw [arith_ok hob]; exact .int _ _⟩
      · obtain ⟨rfl, rfl⟩ := h; exact ⟨_, by rw [binOp_sub]; rfl, by rw [arith_ok hob]; exact .int _ _⟩
      · obtain ⟨rfl, rfl⟩ := h; exact ⟨_, by rw [binOp_mul]; rfl, by rw [arith_ok hob]; exact .int _ _⟩
      · split at h
        · simp only [Option.some.injEq, Prod.mk.injEq] at h
          obtain ⟨rfl, rfl⟩ := h
          refine ⟨.int .i64 (IntKind.i64.wrap (p.tdiv q)), by rw [binOp_quo]; simp [Op.intDiv, hob.1], ?_⟩
          rw [wrap64_id (by have := hob.2; omega)]; exact .int _ _
        · cases h
      · obtain ⟨rfl, rfl⟩ := h
        refine ⟨.int k (p.tmod q), by rw [binOp_rem]; simp [Op.intDiv, show q ≠ 0 from hob], ?_⟩
        exact .int _ _
      · obtain ⟨rfl, rfl⟩ := h; exact ⟨_, by rw [binOp_eql]; rfl, by rw [show (p == q) = decide (p = q) by rw [Bool.eq_iff_iff]; simp]; exact .bool _⟩
      · obtain ⟨rfl, rfl⟩ := h; exact ⟨_, by rw [binOp_neq]; rfl, by rw [show (p != q) = !decide (p = q) by rw [Bool.eq_iff_iff]; simp [bne]]; exact .bool _⟩
      · obtain ⟨rfl, rfl⟩ := h; exact ⟨_, by rw [binOp_lss]; rfl, .bool _⟩
      · obtain ⟨rfl, rfl⟩ := h; exact ⟨_, by rw [binOp_leq]; rfl, .bool _⟩
      · obtain ⟨rfl, rfl⟩ := h; exact ⟨_, by rw [binOp_gtr]; rfl, .bool _⟩
      · obtain ⟨rfl, rfl⟩ := h; exact ⟨_, by rw [binOp_geq]; rfl, .bool _⟩
  · -- bools
    rename_i p q
    split at h
    · split at h
      · rename_i hk
        simp only [Option.some.injEq, Prod.mk.injEq] at h; obtain ⟨rfl, rfl⟩ := h
        exact ⟨_, hEq ty _ hk .eql x y I u v _ _ w ha hb (.inl ⟨_, _, rfl, rfl, rfl⟩) (.inl rfl), by simp [beqD]; exact .bool _⟩
      · cases h
    · split at h
      · rename_i hk
        simp only [Option.some.injEq, Prod.mk.injEq] at h; obtain ⟨rfl, rfl⟩ := h
        exact ⟨_, hEq ty _ hk .neq x y I u v _ _ w ha hb (.inl ⟨_, _, rfl, rfl, rfl⟩) (.inr rfl), by simp [beqD]; exact .bool _⟩
      · cases h
    · cases h
  · -- strings
    rename_i p q
    cases ha; cases hb
    have hg : ∀ w, (eqGuard op ty x y (.string p) (.string q)).run P w = .ok () w := fun w => by rw [eqGuard_at_string]; rfl
    simp only [Sem.run_bind, hg, Result.andThen_ok]
    split at h <;> first | (cases h; done) | skip
    all_goals simp only [Option.some.injEq, Prod.mk.injEq] at h; obtain ⟨rfl, rfl⟩ := h
    · exact ⟨.bool (p == q), by rw [beq_toListBytes]; simp [binOp, Op.stringOp], .bool _⟩
    · exact ⟨.bool (!(p == q)), by rw [beq_toListBytes]; simp [binOp, Op.stringOp], .bool _⟩
    · exact ⟨.string (p ++ q), by simp [binOp, Op.stringOp, hob], .str _⟩
  · -- structs
    rename_i xs ys
    split at h
    · split at h
      · rename_i ls hk
        split at h
        · cases h
        · rename_i hne
          simp only [Option.some.injEq, Prod.mk.injEq] at h; obtain ⟨rfl, rfl⟩ := h
          exact ⟨_, hEq ty _ hk .eql x y I u v _ _ w ha hb (.inr ⟨_, _, rfl, rfl, hne, hob.1, hob.2⟩) (.inl rfl), by simp [beqD]; exact .bool _⟩
      · cases h
    · split at h
      · rename_i ls hk
        split at h
        · cases h
        · rename_i hne
          simp only [Option.some.injEq, Prod.mk.injEq] at h; obtain ⟨rfl, rfl⟩ := h
          exact ⟨_, hEq ty _ hk .neq x y I u v _ _ w ha hb (.inr ⟨_, _, rfl, rfl, hne, hob.1, hob.2⟩) (.inr rfl), by simp [beqD]; exact .bool _⟩
      · cases h
    · cases h
  · cases h
theorem un_ok {op : UnOp} {u : Value} {a : D} (ha : Rd I u a) {r : D} {ob : Prop} (h : unD op a = some (r, ob)) (hob : ob) : ∃ z, (Op.unary op u).run P w = .ok z w ∧ Rd I z r := by
  unfold unD at h
  split at h
  · cases ha
    split at h
    · simp only [Option.some.injEq, Prod.mk.injEq] at h; obtain ⟨rfl, rfl⟩ := h
      exact ⟨_, by simp only [Op.unary, Sem.run_pure], .bool _⟩
    · cases h
  · cases ha
    split at h
    · simp only [Option.some.injEq, Prod.mk.injEq] at h; obtain ⟨rfl, rfl⟩ := h
      exact ⟨_, by simp [Op.unary, Op.intArith]; rfl, by rw [arith_ok hob]; simp; exact .int _ _⟩
    · cases h
  · cases h
theorem index_ok (hE : TOk P V.E) (hrel : WRel w0 I0 w I m L) (hc : Com l L) {t : TypeId} {v vi : Value} {x i : T} (hx : RdT I m L v x) (hi : RdT I m L vi i) (hob : (indexP V.E t l x i).ob) :
    (indexP V.E t l x i).eff = .none ∧ ∃ u, (Instr.indexAt t v vi).run P w = .ok u w ∧ RdT I m L u (indexP V.E t l x i).t := by
  unfold indexP at hob ⊢
  split at hob
  · rename_i e k n hs hn
    have hvi : vi = .int k n := by
      unfold intOfT at hn
      split at hn
      · simp at hn; obtain ⟨rfl, rfl⟩ := hn; have := rdD hi; cases this; rfl
      · cases hn
    subst hvi
    have hu := underlying_slice hE hs
    have key : ∀ (a : Addr) (len cap : Nat), 0 ≤ n → n < len → ∀ z, (V.E e).map TI.size = some z → (Instr.indexAt t (.slice (some a) len cap) (.int k n)).run P w = .ok (.pointer (some (a.add (n.toNat * z)))) w := by
      intro a len cap h0 h1 z hz
      cases hie : V.E e with
      | none => simp [hie] at hz
      | some ie =>
        simp [hie] at hz
        simp [Instr.indexAt, run_underlying hu, asIntOf, h0, h1, run_sizeOf_ti hE hie, hz]
    have hpos : ∀ {size : Nat}, size = sizeE V.E e ∧ 0 < size → (V.E e).map TI.size = some size := by
      intro size hsz
      unfold sizeE at hsz
      cases hie : V.E e with
      | none => simp [hie] at hsz; omega
      | some ie => simp [hie] at hsz; simp [hsz.1]
    split at hob
    · rename_i size els
      split at hob
      · rename_i hsz
        simp only [if_pos hsz]
        obtain ⟨h0, h1⟩ := hob
        have := rdD hx
        generalize hD : D.slice size els = dd at this
        cases this <;> first | (cases hD; done) | skip
        · injection hD with hD1 hD2; subst hD2; simp at h1; omega
        · rename_i b off len c size' els' val q1 q2 q3 q4 q5 q6
          injection hD with hD1 hD2; subst hD1; subst hD2
          refine ⟨trivial, _, key _ len c h0 (by omega) size (hpos hsz), ?_⟩
          rw [Addr.add_mid]
          have := RdT.eptr (I := I) (m := m) (l := L) b off size els n.toNat 0 val (by omega) q4 (fun j hj => q5 j (by rw [← q1]; exact hj)) q6
          simpa using this
      · exact hob.elim
    · rename_i id
      have go : ∀ e' size els, l[id]? = some (.row e' size els) ∨ l[id]? = some (.frow e' size els) → size = sizeE V.E e ∧ 0 < size → 0 ≤ n ∧ n < els.length →
          ∃ u, (Instr.indexAt t v (.int k n)).run P w = .ok u w ∧ RdT I m L u (.rptr id n.toNat 0) := by
        intro e' size els ho hsz ⟨h0, h1⟩
        have ho' : L[id]? = some (.row e' size els) ∨ L[id]? = some (.frow e' size els) := by rcases ho with ho | ho; exact .inl (hc.get ho); exact .inr (hc.get ho)
        have hx' : ∃ A n' c, v = .slice A n' c ∧ m id = v := by
          cases hx with
          | row A n' c _ q1 q2 => exact ⟨A, n', c, rfl, q2 (by unfold isRow; rcases ho' with h | h <;> simp [h, AO.isRow])⟩
        obtain ⟨A, n', c, rfl, hm⟩ := hx'
        have hown : ∃ xs, w.ownsRow w0.heap.size e' size (m id) els.length xs := by
          rcases ho' with h | h
          · obtain ⟨xs, k1, _⟩ := hrel.obj id _ h; exact ⟨xs, k1⟩
          · obtain ⟨xs, k1, _⟩ := hrel.obj id _ h; exact ⟨xs, k1⟩
        obtain ⟨xs, k1⟩ := hown
        rcases k1.2 with ⟨_, q⟩ | ⟨g, cap, cur, q, _⟩
        · simp [q] at h1; omega
        · have q' := hm.symm.trans q
          injection q' with q1 q2 q3
          subst q1; subst q2; subst q3
          refine ⟨_, key _ _ _ h0 h1 size (hpos hsz), .rptr _ id _ 0 ?_ fun e1 s1 els1 hl => ⟨g, els.length, _, q, ?_⟩⟩
          · rcases ho' with h | h <;> exact (List.getElem?_eq_some_iff.1 h).1
          · have : s1 = size := by rcases ho' with h | h <;> rcases hl with hl | hl <;> rw [h] at hl <;> cases hl <;> rfl
            subst this
            rw [Addr.add_mid]; simp
      split at hob
      · rename_i e' size els ho
        split at hob
        · rename_i hsz
          simp only [if_pos hsz]
          exact ⟨trivial, go e' size els (.inl ho) hsz hob⟩
        · exact hob.elim
      · rename_i e' size els ho
        split at hob
        · rename_i hsz
          simp only [if_pos hsz]
          exact ⟨trivial, go e' size els (.inr ho) hsz hob⟩
        · exact hob.elim
      · exact hob.elim
    · exact hob.elim
  · rename_i len e k n hs hn
    have hvi : vi = .int k n := by
      unfold intOfT at hn
      split at hn
      · simp at hn; obtain ⟨rfl, rfl⟩ := hn; have := rdD hi; cases this; rfl
      · cases hn
    subst hvi
    have hu := underlying_array hE hs
    split at hob
    · rename_i size els q off
      split at hob
      · rename_i he
        simp only [if_pos he]
        obtain ⟨h0, h1⟩ := hob
        obtain ⟨ie, hie⟩ := Option.isSome_iff_exists.1 he
        cases hx with
        | eptr b o _ _ _ _ val q1 q2 q3 q4 =>
          refine ⟨trivial, .pointer (some ⟨b, o + q * size + (off + n.toNat * sizeE V.E e), none⟩), ?_, .eptr b o size els q _ val q1 q2 q3 q4⟩
          have hz : sizeE V.E e = ie.size := by simp [sizeE, hie]
          simp [Instr.indexAt, Instr.sureAddr, run_underlying hu, asIntOf, h0, h1, run_sizeOf_ti hE hie, hz, Addr.add_mid, Nat.add_assoc]
      · exact hob.elim
    · exact hob.elim
  · exact hob.elim
end
end Go.Eva
namespace Go.Eva
open Go Go.RowKit
variable [Drw]
theorem flat_drop {size : Nat} (els : List D) (hs : ∀ d ∈ els, d.cells.length = size) (k : Nat) : flat (els.drop k) = (flat els).drop (k * size) := by
  induction els generalizing k with
  | nil => simp [flat]
  | cons e els ih =>
    have he := hs e (by simp)
    rcases k with _ | k
    · simp
    · simp only [List.drop_succ_cons]
      rw [ih (fun d hd => hs d (by simp [hd])) k]
      simp only [flat, List.flatMap_cons]
      rw [show (k + 1) * size = e.cells.length + k * size by rw [he, Nat.add_mul]; omega, ← List.drop_drop, List.drop_left]
theorem flat_take {size : Nat} (els : List D) (hs : ∀ d ∈ els, d.cells.length = size) (k : Nat) : flat (els.take k) = (flat els).take (k * size) := by
  induction els generalizing k with
  | nil => simp [flat]
  | cons e els ih =>
    have he := hs e (by simp)
    rcases k with _ | k
    · simp [flat]
    · simp only [List.take_succ_cons]
      have := ih (fun d hd => hs d (by simp [hd])) k
      simp only [flat, List.flatMap_cons] at this ⊢
      rw [show (k + 1) * size = e.cells.length + k * size by rw [he, Nat.add_mul]; omega, List.take_length_add_append, this]
theorem flat_append (a b : List D) : flat (a ++ b) = flat a ++ flat b := by simp [flat]
section
variable {P : Program} {V : Env} {w0 w : World} {I0 I : Imm} {m : Nat → Value} {l L : List AO} {nid : Nat} {o : Oper} {ρ : Operand → Value} {ρT : Operand → T}
theorem rd_cut {A : Option Addr} {n c lo hi size : Nat} {els : List D} (h : Rd I (.slice A n c) (.slice size els)) (h1 : lo ≤ hi) (h2 : hi ≤ els.length) :
    n = els.length ∧ n ≤ c ∧ Rd I (.slice (if c = lo then A else A.map (·.add (lo * size))) (hi - lo) (c - lo)) (.slice size ((els.take hi).drop lo)) := by
  cases h with
  | slice0 A c size hc =>
    have : hi = 0 := by simpa using h2
    subst this
    have : lo = 0 := by omega
    subst this
    refine ⟨rfl, Nat.zero_le _, ?_⟩
    simpa using Rd.slice0 (I := I) _ c size hc
  | slice b off n c size els val q1 q2 q3 q4 q5 q6 =>
    refine ⟨q1.symm, q2, ?_⟩
    by_cases he : lo = hi
    · subst he
      have : (els.take lo).drop lo = [] := by simp
      rw [this, Nat.sub_self]
      exact .slice0 _ _ _ (by omega)
    · have hne : c ≠ lo := by omega
      rw [if_neg hne]
      simp only [Option.map_some, Addr.add_mid]
      have hs : ∀ d ∈ els, d.cells.length = size := fun d hd => (q4 d hd).1
      refine .slice b (off + lo * size) (hi - lo) (c - lo) size _ (fun k => val (lo * size + k)) (by simp; omega) (by omega) (by omega) (fun d hd => q4 d (List.mem_of_mem_take (List.mem_of_mem_drop hd))) (fun k hk => ?_) (fun k x hx => ?_)
      · rw [Nat.add_assoc]
        apply q5
        have : lo * size + (hi - lo) * size = hi * size := by rw [← Nat.add_mul]; congr 1; omega
        have : hi * size ≤ n * size := Nat.mul_le_mul_right _ (by omega)
        omega
      · rw [flat_drop _ (fun d hd => hs d (List.mem_of_mem_take hd)), flat_take _ hs, List.getElem?_drop, List.getElem?_take] at hx
        split at hx
        · exact q6 _ x hx
        · cases hx
theorem slice_ok (hE : TOk P V.E) {t e : TypeId} {sz bt : Nat} {z : List D} (hs : V.E t = some ⟨sz, bt, z, .slice e⟩) {v : Value} {x : T} {lo hi : Option Operand} (hx : RdT I m L v x)
    (hlo : ∀ a, lo = some a → RdT I m L (ρ a) (ρT a)) (hhi : ∀ a, hi = some a → RdT I m L (ρ a) (ρT a)) (hsz : ∀ size els, x = .d (.slice size els) → size = sizeE V.E e ∧ (V.E e).isSome = true) (hob : (sliceT x (lo.map ρT) (hi.map ρT)).ob) :
    (sliceT x (lo.map ρT) (hi.map ρT)).eff = .none ∧ ∃ u, (Instr.sliceAt t v (lo.map ρ) (hi.map ρ) none).run P w = .ok u w ∧ RdT I m L u (sliceT x (lo.map ρT) (hi.map ρT)).t := by
  have hu := underlying_slice hE hs
  have hu' : P.underlying t = some (.slice (P.elem t)) := by simp [Program.elem, hu]
  have he : P.elem t = e := by simp [Program.elem, hu]
  have hint : ∀ {a : T} {k : IntKind} {n : Int} {v : Value}, intOfT a = some (k, n) → RdT I m L v a → v = .int k n := by
    intro a k n v hn hr
    unfold intOfT at hn
    split at hn
    · simp at hn; obtain ⟨rfl, rfl⟩ := hn; have := rdD hr; cases this; rfl
    · cases hn
  unfold sliceT at hob ⊢
  split at hob
  · rename_i size els
    obtain ⟨hsize, hsome⟩ := hsz size els rfl
    have hd := rdD hx
    obtain ⟨A, n, c, rfl⟩ : ∃ A n c, v = .slice A n c := by cases hd <;> exact ⟨_, _, _, rfl⟩
    obtain ⟨ie, hie⟩ := Option.isSome_iff_exists.1 hsome
    have hze : ie.size = size := by rw [hsize]; simp [sizeE, hie]
    have hsizeof : (sizeOf (P.elem t)).run P w = .ok size w := by rw [he, run_sizeOf_ti hE hie, hze]
    have hat : ∀ a b, (Instr.sliceAt t (.slice A n c) a b none).run P w = (Instr.slice t (.slice A n c) a b none).run P w := fun a b => run_sliceAt_slice w t _ a b none hu'
    have fin : ∀ lo hi : Nat, lo ≤ hi → hi ≤ els.length → RdT I m L (sliced A lo hi c size) (.d (.slice size ((els.take hi).drop lo))) := by
      intro lo hi h1 h2
      obtain ⟨_, _, h3⟩ := rd_cut hd h1 h2
      refine .d _ _ ?_
      simpa [sliced] using h3
    obtain ⟨hnl, hnc, _⟩ := rd_cut hd (Nat.zero_le els.length) (Nat.le_refl _)
    cases lo with
    | none =>
      cases hi with
      | none =>
        simp only [Option.map_none] at hob ⊢
        refine ⟨rfl, _, by rw [hat, run_slice_all w t A n c hu', hsizeof]; rfl, ?_⟩
        have := fin 0 els.length (Nat.zero_le _) (Nat.le_refl _)
        rw [hnl]
        simpa [R.ok] using this
      | some b =>
        simp only [Option.map_none, Option.map_some] at hob ⊢
        split at hob
        · rename_i k h hb
          have hv := hint hb (hhi b rfl)
          simp only
          refine ⟨trivial, _, by rw [hat, hv, run_slice_h w t A n c hu' _ _ hob.1 (by omega), hsizeof]; rfl, ?_⟩
          have := fin 0 h.toNat (Nat.zero_le _) (by omega)
          simpa using this
        · exact hob.elim
    | some a =>
      cases hi with
      | none =>
        simp only [Option.map_none, Option.map_some] at hob ⊢
        split at hob
        · rename_i k h ha
          have hv := hint ha (hlo a rfl)
          simp only
          refine ⟨trivial, _, by rw [hat, hv, run_slice_l w t A n c hu' _ _ hob.1 (by omega), hsizeof]; rfl, ?_⟩
          have := fin h.toNat els.length (by omega) (Nat.le_refl _)
          rw [hnl]
          simpa using this
        · exact hob.elim
      | some b =>
        simp only [Option.map_some] at hob ⊢
        split at hob
        · rename_i k g k' h ha hb
          have hv := hint ha (hlo a rfl)
          have hv' := hint hb (hhi b rfl)
          simp only
          refine ⟨trivial, _, by rw [hat, hv, hv', run_slice_lh w t A n c hu' _ _ _ _ hob.1 hob.2.1 (by omega), hsizeof]; rfl, ?_⟩
          exact fin g.toNat h.toNat (by omega) (by omega)
        · exact hob.elim
  · exact hob.elim
end
end Go.Eva
namespace Go.Eva
open Go Go.RowKit
variable [Drw]
section
variable {P : Program} {V : Env} {w0 w : World} {I0 I : Imm} {m : Nat → Value} {l L : List AO}
theorem flat_set {size : Nat} : ∀ (els : List D) (k : Nat) (x : D), (∀ d ∈ els, d.cells.length = size) → k < els.length → flat (els.set k x) = (flat els).take (k * size) ++ x.cells ++ (flat els).drop (k * size + size)
  | [], k, x, _, hk => by simp at hk
  | d :: els, 0, x, hs, _ => by
    have hd := hs d (by simp)
    simp [flat, ← hd, List.drop_append]
  | d :: els, k + 1, x, hs, hk => by
    have hd := hs d (by simp)
    have ih := flat_set els k x (fun y hy => hs y (by simp [hy])) (by simpa using hk)
    have e1 : (k + 1) * size = d.cells.length + k * size := by rw [hd, Nat.succ_mul, Nat.add_comm]
    have e2 : flat (d :: els) = d.cells ++ flat els := by simp [flat]
    have e3 : flat (d :: els.set k x) = d.cells ++ flat (els.set k x) := by simp [flat]
    rw [List.set_cons_succ, e3, ih, e2, e1, List.take_append, List.drop_append]
    simp [List.take_of_length_le, Nat.add_sub_cancel_left, List.append_assoc, show d.cells.length + k * size + size - d.cells.length = k * size + size by omega, List.drop_of_length_le (show d.cells.length ≤ d.cells.length + k * size + size by omega)]
theorem take_mid {α : Type} (A V : List α) (p s N : Nat) (h1 : p + s ≤ N) (h2 : N ≤ A.length) (hv : V.length = s) : (A.take p ++ V ++ A.drop (p + s)).take N = (A.take N).take p ++ V ++ (A.take N).drop (p + s) := by
  apply List.ext_getElem?
  intro i
  simp only [List.getElem?_take, List.getElem?_append, List.length_append, List.length_take, List.getElem?_drop, hv, Nat.min_eq_left (show p ≤ A.length by omega), Nat.min_eq_left h2, Nat.min_eq_left (show p ≤ N by omega)]
  by_cases a : i < N
  · by_cases b : i < p
    · simp [a, b, show i < p + s by omega]
    · by_cases c : i < p + s
      · simp [a, b, c]
      · simp [a, b, c, show p + s + (i - (p + s)) < N by omega]
  · simp [a, show ¬ i < p by omega, show ¬ i < p + s by omega, show ¬ p + s + (i - (p + s)) < N by omega]
theorem WRel.turnRow (hrel : WRel w0 I0 w I m l) {id b e size n c : Nat} {els els' : List D} {cur new : Array Value} {xs : List Value} (ho : l[id]? = some (.row e size els)) (hm : m id = .slice (some ⟨b, 0, none⟩) n c)
    (hw : w.heap[b]? = some (.cells cur e (0, 0))) (hrow : (w.setRow b new).ownsRow w0.heap.size e size (.slice (some ⟨b, 0, none⟩) n c) els'.length xs)
    (hs : ∀ d ∈ els', d.cells.length = size ∧ ∀ x ∈ d.cells, x.one = true) (hrd : ∀ (j : Nat) x y, xs[j]? = some x → (flat els')[j]? = some y → Rd I x y) :
    Le I m l I m (l.set id (.row e size els')) ∧ WRel w0 I0 (w.setRow b new) I m (l.set id (.row e size els')) := by
  obtain ⟨xs0, k1, k2, k3, k4⟩ := hrel.obj id _ ho
  have hidl : id < l.length := (List.getElem?_eq_some_iff.1 ho).1
  have hno : I.noB b := k4 b (by rw [hm]; rfl)
  have hge : w0.heap.size ≤ b := ((hrel.obj id _ ho).lt (by simp) (by rw [hm]; rfl)).2
  have hle : Le I m l I m (l.set id (.row e size els')) := by
    refine ⟨.refl I, by simp, fun k _ hk => ⟨(isVar_set (o' := .row e size els') ho rfl k).trans hk, rfl⟩, fun k _ hk => ⟨(isRow_set (o' := .row e size els') ho rfl k).symm.trans hk, rfl⟩, fun k e' size' elsx hk hh => ?_⟩
    by_cases hki : k = id
    · subst hki; rw [List.getElem?_set, if_pos rfl, if_pos hidl] at hh
      rcases hh with hh | hh
      · injection hh with hh; injection hh with h1 h2 h3; subst h1; subst h2; exact ⟨els, .inl ho⟩
      · cases hh
    · rw [List.getElem?_set, if_neg (Ne.symm hki)] at hh; exact ⟨elsx, hh⟩
  refine ⟨hle, ⟨hrel.below.trans ⟨rfl, rfl, rfl, by simp [World.setRow], fun k hk => setRow_other w b _ new (by omega), fun _ => Nat.le_refl _⟩, ⟨fun b' o u hc => ?_, fun b' es hc => ?_, fun b' hd => (setRow_other w b _ new (fun e => by subst e; exact hrel.sat.ndf hw (by simp) hd)).trans (hrel.sat.df b' hd), hrel.sat.glob⟩, hrel.ext, fun j o hj => ?_, fun i j b' hij hi hj hbi hbj => ?_⟩⟩
  · have hne : b' ≠ b := by rintro rfl; rw [hno.1] at hc; cases hc
    exact (World.cell?_of_block (w := w) (a := ⟨b', o, none⟩) (setRow_other w b _ new hne)).trans (hrel.sat.cell b' o u hc)
  · have hne : b' ≠ b := by rintro rfl; rw [hno.2] at hc; cases hc
    have hh := hrel.sat.mp b' es hc
    exact MapAt.to (setRow_other w b _ new hne) hh
  · by_cases hji : j = id
    · subst hji
      rw [List.getElem?_set, if_pos rfl, if_pos hidl] at hj
      injection hj with hj; subst hj
      rw [hm]
      exact ⟨xs, hrow, hs, hrd, fun b' hb' => by injection hb' with hb'; subst hb'; exact hno⟩
    · rw [List.getElem?_set, if_neg (Ne.symm hji)] at hj
      by_cases hd : o = .dead
      · subst hd; trivial
      · refine (hrel.obj j o hj).keep hle (fun b' hb' => setRow_other w b _ new ?_) (fun _ _ => ⟨rfl, rfl⟩)
        rintro rfl
        exact hrel.sep j id b' hji (alive_iff.2 ⟨o, hj, hd⟩) (alive_iff.2 ⟨_, ho, by simp⟩) hb' (by rw [hm]; rfl)
  · refine hrel.sep i j b' hij ?_ ?_ hbi hbj
    · unfold alive at hi ⊢; rwa [isVar_set (o' := .row e size els') ho rfl, isRow_set (o' := .row e size els') ho rfl] at hi
    · unfold alive at hj ⊢; rwa [isVar_set (o' := .row e size els') ho rfl, isRow_set (o' := .row e size els') ho rfl] at hj
theorem rowStore_ok (hE : TOk P V.E) (hrel : WRel w0 I0 w I m l) {id k : Nat} {ty e size : Nat} {els : List D} {x : D} {v : Value} {a : Addr} (ho : l[id]? = some (.row e size els)) (ha : RdT I m l (.pointer (some a)) (.rptr id k 0))
    (hx : Rd I v x) (hc : x.cells.length = size) (h1 : x.cells.all D.one = true) (hk : k < els.length) (hn : x.cells.length = sizeE V.E ty) (hpos : 0 < x.cells.length) :
    ∃ w', (Instr.storeAt ty (.pointer (some a)) v).run P w = .ok () w' ∧ Le I m l I m (l.set id (.row e size (els.set k x))) ∧ WRel w0 I0 w' I m (l.set id (.row e size (els.set k x))) := by
  obtain ⟨b, n, c, hm, hav⟩ : ∃ b n c, m id = .slice (some ⟨b, 0, none⟩) n c ∧ a = ⟨b, k * size + 0, none⟩ := by
    cases ha with
    | rptr _ _ _ _ q1 q2 => exact q2 e size els (.inl ho)
  subst hav
  obtain ⟨xs, k1, k2, k3, k4⟩ := hrel.obj id _ ho
  rw [hm] at k1
  obtain ⟨hxl, hcase⟩ := k1
  rcases hcase with ⟨hv, _⟩ | ⟨g, cap, cur, hv, hb, hg, hnc, hcap, hcs, htk⟩
  · cases hv
  injection hv with hv1 hv2 hv3
  injection hv1 with hv1; injection hv1 with hv1; subst hv1; subst hv2; subst hv3
  have ht : ∀ ds, x ≠ .tup ds := fun ds e => by subst e; simp [D.cells, D.one] at h1
  obtain ⟨q1, q2, q3⟩ := hx.cells ht
  have hone : ∀ u ∈ v.cells.toList, u.oneCell' = true := by
    intro u hu
    obtain ⟨i, hi, rfl⟩ := List.mem_iff_getElem.1 hu
    have hi' : i < x.cells.length := by simp at hi; omega
    exact (q3 i _ x.cells[i] (by rw [← Array.getElem?_toList]; exact List.getElem?_eq_getElem hi) (List.getElem?_eq_getElem hi')).one (q2 _ (List.getElem_mem hi'))
  have hvl : v.cells.toList.length = size := by simp [q1, hc]
  have hmul : k * size + size ≤ els.length * size := by
    have : (k + 1) * size ≤ els.length * size := Nat.mul_le_mul_right _ hk
    rw [Nat.succ_mul] at this; exact this
  have hmul2 : els.length * size ≤ cur.size := by rw [hcs]; exact Nat.mul_le_mul_right _ hnc
  have hsize : (sizeOf ty).run P w = .ok v.cells.size w := by
    cases hi : V.E ty with
    | none => simp only [sizeE, hi, Option.map_none, Option.getD_none] at hn; omega
    | some i =>
      rw [run_sizeOf_ti hE hi w]
      simp only [sizeE, hi, Option.map_some, Option.getD_some] at hn
      congr 1; omega
  have hst := run_storeCells_at P b (k * size) e v.cells.toList 0 cur w hg (by rw [hvl]; omega) hone
  refine ⟨_, by simp only [Instr.storeAt, Instr.sureAddr, Sem.run_bind, Sem.run_pure, Result.andThen_ok, storeVar, hsize, ne_eq, not_true_eq_false, if_false, Nat.add_zero]; exact hst, ?_⟩
  simp only [Nat.add_zero, hvl]
  generalize hnew : (cur.toList.take (k * size) ++ v.cells.toList ++ cur.toList.drop (k * size + size)).toArray = new
  have hnl : new.toList = cur.toList.take (k * size) ++ v.cells.toList ++ cur.toList.drop (k * size + size) := by subst hnew; simp
  have hns : new.size = cur.size := by
    rw [← Array.length_toList, hnl]
    simp only [List.length_append, List.length_take, List.length_drop, Array.length_toList, hvl] at *
    omega
  have hxs' : new.toList.take (els.length * size) = xs.take (k * size) ++ v.cells.toList ++ xs.drop (k * size + size) := by
    rw [hnl, ← htk]
    exact take_mid _ _ _ _ _ hmul (by rw [Array.length_toList]; exact hmul2) hvl
  refine hrel.turnRow (n := els.length) (c := c) (cur := cur) (xs := xs.take (k * size) ++ v.cells.toList ++ xs.drop (k * size + size)) ho hm hg ⟨?_, .inr ⟨b, c, new, ?_, hb, setRow_heap w b cur new e (0, 0) hg, ?_, hcap, by rw [hns, hcs], ?_⟩⟩ ?_ ?_
  · simp only [List.length_append, List.length_take, List.length_drop, hxl, hvl, List.length_set]; omega
  · simp
  · simpa using hnc
  · rw [List.length_set]; exact hxs'
  · intro d hd
    rcases List.mem_or_eq_of_mem_set hd with hd | rfl
    · exact k2 d hd
    · exact ⟨hc, q2⟩
  · intro j u y hu hy
    rw [flat_set els k x (fun d hd => (k2 d hd).1) hk] at hy
    have hfl : (flat els).length = els.length * size := flat_len els (fun d hd => (k2 d hd).1)
    rw [List.append_assoc, List.getElem?_append] at hu hy
    have l1 : (xs.take (k * size)).length = k * size := by rw [List.length_take]; omega
    have l2 : ((flat els).take (k * size)).length = k * size := by rw [List.length_take]; omega
    rw [l1] at hu; rw [l2] at hy
    by_cases hj : j < k * size
    · rw [if_pos hj] at hu hy
      rw [List.getElem?_take, if_pos hj] at hu hy
      exact k3 j u y hu hy
    · rw [if_neg hj] at hu hy
      rw [List.getElem?_append] at hu hy
      rw [hvl] at hu; rw [hc] at hy
      by_cases hj2 : j - k * size < size
      · rw [if_pos hj2] at hu hy
        exact q3 _ u y (by simpa using hu) hy
      · rw [if_neg hj2] at hu hy
        rw [List.getElem?_drop] at hu hy
        exact k3 _ u y hu hy
end
end Go.Eva
namespace Go.Eva
open Go Go.RowKit
variable [Drw]
def Cells (I : Imm) (vs : List Value) (ds : List D) : Prop := vs.length = ds.length ∧ (∀ d ∈ ds, d.one = true) ∧ ∀ (i : Nat) v d, vs[i]? = some v → ds[i]? = some d → Rd I v d
def CellsT (I : Imm) (m : Nat → Value) (L : List AO) (vs : List Value) (ts : List T) : Prop := vs.length = ts.length ∧ (∀ v ∈ vs, v.oneCell' = true) ∧ ∀ (i : Nat) v t, vs[i]? = some v → ts[i]? = some t → RdT I m L v t
theorem CellsT.set {I : Imm} {m : Nat → Value} {L : List AO} {vs xs : List Value} {ds ys : List T} {off : Nat} (h : CellsT I m L vs ds) (k : CellsT I m L xs ys) (hle : off + ys.length ≤ ds.length) :
    CellsT I m L (vs.take off ++ xs ++ vs.drop (off + xs.length)) (setAt ds off ys) := by
  obtain ⟨h1, h2, h3⟩ := h
  obtain ⟨k1, k2, k3⟩ := k
  refine ⟨by simp [setAt]; omega, fun d hd => ?_, fun i v d hv hd => ?_⟩
  · simp only [List.mem_append] at hd
    rcases hd with (hd | hd) | hd
    · exact h2 d (List.mem_of_mem_take hd)
    · exact k2 d hd
    · exact h2 d (List.mem_of_mem_drop hd)
  · have l1 : (vs.take off).length = off := by simp; omega
    have l2 : (ds.take off).length = off := by simp; omega
    rw [List.append_assoc, List.getElem?_append, l1] at hv
    rw [setAt, List.append_assoc, List.getElem?_append, l2] at hd
    by_cases hi : i < off
    · rw [if_pos hi, List.getElem?_take, if_pos hi] at hv hd
      exact h3 i v d hv hd
    · rw [if_neg hi, List.getElem?_append] at hv hd
      rw [k1] at hv
      by_cases hi2 : i - off < ys.length
      · rw [if_pos hi2] at hv hd; exact k3 _ v d hv hd
      · rw [if_neg hi2, List.getElem?_drop] at hv hd; exact h3 _ v d hv hd
section
variable {P : Program} {V : Env} {w0 w : World} {I0 I : Imm} {m : Nat → Value} {l L : List AO} {nid : Nat} {o : Oper} {ρ : Operand → Value} {ρT : Operand → T}
theorem rd_cells {v : Value} {d : D} (h : Rd I v d) (hone : d.cells.all D.one = true) : Cells I v.cells.toList d.cells := by
  have ht : ∀ ds, d ≠ .tup ds := fun ds e => by subst e; simp [D.cells, D.one] at hone
  obtain ⟨q1, q2, q3⟩ := h.cells ht
  exact ⟨by simpa using q1, q2, fun i u x hu hx => q3 i u x (by simpa using hu) hx⟩
theorem fill_ok (place : Nat → Option (Nat × Nat)) : ∀ (parts : List (Nat × Operand)) (cells : Array Value) (ds ds' : List T), CellsT I m L cells.toList ds → (∀ p ∈ parts, RdT I m L (ρ p.2) (ρT p.2)) →
    fillT place ds (parts.map fun p => (p.1, ρT p.2)) = some ds' → ∃ cells', Instr.fill place cells (parts.map fun p => (p.1, ρ p.2)) = some cells' ∧ CellsT I m L cells'.toList ds'
  | [], cells, ds, ds', hc, _, h => by
    simp [fillT] at h; subst h
    exact ⟨cells, rfl, hc⟩
  | p :: parts, cells, ds, ds', hc, hr, h => by
    simp only [List.map_cons, fillT] at h
    cases hp : place p.1 with
    | none => simp [hp] at h
    | some os =>
        obtain ⟨off, size⟩ := os
        simp only [hp] at h
        split at h
        · rename_i hle
          obtain ⟨c1, c2, c3⟩ := cells_all (hr p (by simp)) hle.2.2
          have hcx : CellsT I m L (ρ p.2).cells.toList (cellsT (ρT p.2)) := ⟨c1, c2, c3⟩
          have hsz : (ρ p.2).cells.size = size := by have := hcx.1; simp at this; omega
          have hle2 : off + (ρ p.2).cells.size ≤ cells.size := by have := hc.1; simp at this; omega
          obtain ⟨g1, g2⟩ := Great.foldl_set off (ρ p.2).cells.toList 0 cells
          generalize hcs : ((ρ p.2).cells.toList.zipIdx 0).foldl (fun cs (x : Value × Nat) => cs.setIfInBounds (off + x.2) x.1) cells = cs at *
          have hlist : cs.toList = cells.toList.take off ++ (ρ p.2).cells.toList ++ cells.toList.drop (off + (ρ p.2).cells.toList.length) := by
            apply List.ext_getElem?
            intro k
            have := g2 k
            rw [Array.getElem?_toList, this]
            have l1 : (cells.toList.take off).length = off := by simp; omega
            rw [List.append_assoc, List.getElem?_append, l1, List.getElem?_append]
            simp only [Nat.add_zero, Array.length_toList]
            by_cases h1 : k < off
            · rw [if_neg (by omega), if_pos h1, List.getElem?_take, if_pos h1]; simp
            · rw [if_neg h1]
              by_cases h2 : k - off < (ρ p.2).cells.size
              · rw [if_pos (by omega), if_pos h2]
              · rw [if_neg (by omega), if_neg h2, List.getElem?_drop]
                rw [show off + (ρ p.2).cells.size + (k - off - (ρ p.2).cells.size) = k by omega]; simp
          obtain ⟨cells', hf, hcc⟩ := fill_ok place parts cs (setAt ds off (cellsT (ρT p.2))) ds' (by rw [hlist]; exact hc.set hcx (by have := hc.1; simp at this; omega)) (fun q hq => hr q (by simp [hq])) h
          refine ⟨cells', ?_, hcc⟩
          simp only [List.map_cons]
          unfold Instr.fill
          simp only [hp]
          rw [if_neg (by simp [hsz]; omega), ← hf]
          congr 1
          rw [← hcs, ← Array.foldl_toList, Array.toList_zipIdx]
        · cases h
theorem build_ok (hE : TOk P V.E) {t : TypeId} {sz bt : Nat} {z : List D} {ds : List T} {fs : List (Nat × TypeId)} {parts : Array (Nat × Operand)} (hs : V.E t = some ⟨sz, bt, z, .struct fs⟩) (hr : ∀ p ∈ parts.toList, RdT I m L (ρ p.2) (ρT p.2))
    (hf : fillT (placeS V.E fs) (z.map zeroT) (parts.toList.map fun p => (p.1, ρT p.2)) = some ds) (hall : ∀ f ∈ fs, (V.E f.2).isSome = true) :
    ∃ u, (Instr.build t (parts.map fun (i, x) => (i, ρ x))).run P w = .ok u w ∧ RdT I m L u (mkT true ds) := by
  obtain ⟨gs, hu, rfl⟩ := underlying_struct hE hs
  obtain ⟨x, zv, h1, h2, h3, h4, h5, h6, h7, h8⟩ := tiOk_parts (hE t _ hs)
  have hc : CellsT I m L zv.cells.toList (z.map zeroT) := by
    obtain ⟨k1, k2, k3⟩ := zerosOk_rd I _ _ h5
    have k1 : zv.cells.toList.length = z.length := k1
    refine ⟨by simpa using k1, fun v hv => ?_, fun i v t hv ht => ?_⟩
    · obtain ⟨j, hj, rfl⟩ := List.mem_iff_getElem.1 hv
      have hj' : j < z.length := by omega
      exact (k3 j _ _ (List.getElem?_eq_getElem hj) (List.getElem?_eq_getElem hj')).one (k2 _ (List.getElem_mem hj'))
    · rw [List.getElem?_map] at ht
      cases hz : z[i]? with
      | none => simp [hz] at ht
      | some d => simp [hz] at ht; subst ht; exact zeroT_rd (zerosOk_cell h5 hv hz)
  obtain ⟨cells', hf', hcc⟩ := fill_ok (ρ := ρ) (ρT := ρT) (m := m) (L := L) (placeS V.E _) parts.toList zv.cells _ ds hc hr hf
  have hpl : ∀ gs' : List Field, (∀ f ∈ gs'.map (fun f => (f.offset, f.type)), (V.E f.2).isSome = true) → gs'.mapM (fun f => (P.info? f.type).map fun i => (f.offset, i.size)) = some (gs'.map fun f => (f.offset, sizeE V.E f.type)) := by
    intro gs' hg
    induction gs' with
    | nil => rfl
    | cons f gs' ih =>
      obtain ⟨i, hi⟩ := Option.isSome_iff_exists.1 (hg (f.offset, f.type) (by simp))
      obtain ⟨x', _, k1, k2, _⟩ := tiOk_parts (hE _ _ hi)
      have e1 : (P.info? f.type).map (fun i => (f.offset, i.size)) = some (f.offset, sizeE V.E f.type) := by
        simp only at hi
        simp [k1, k2, sizeE, hi]
      simp only [List.mapM_cons, e1, ih (fun q hq => hg q (by simp at hq ⊢; exact .inr hq)), List.map_cons]
      rfl
  have hb : P.built t (parts.map fun (i, x) => (i, ρ x)).toList = some cells' := by
    unfold Program.built
    simp only [h1, hu, h4, hpl gs.toList hall]
    rw [← hf']
    have e1 : (parts.map fun (i, x) => (i, ρ x)).toList = parts.toList.map fun p => (p.1, ρ p.2) := by simp
    rw [e1]
    congr 1
    funext i
    simp only [placeS, List.getElem?_toArray, List.getElem?_map, Option.map_map]
    rfl
  refine ⟨_, run_build w t _ _ hb, ?_⟩
  have := mkT_ok (I := I) (m := m) (L := L) (i := ⟨cells'.size, 0, [], .struct []⟩) (vs := cells'.toList) (ts := ds) hcc.1 (by simp) (by simp [TD.agg]) (fun j v t hv ht => ⟨hcc.2.2 j v t hv ht, hcc.2.1 v (List.mem_of_getElem? hv)⟩)
  simpa [TD.agg] using this
theorem WRel.known (hrel : WRel w0 I0 w I m L) (e : TypeId) (cs : Array Value) (size : Nat) (ds : List D) (n : Nat) (hn : ds.length = n) (hs : ∀ d ∈ ds, d.cells.length = size ∧ ∀ x ∈ d.cells, x.one = true) (hlen : cs.size = n * size) (hmax : n ≤ maxLen)
    (hrd : ∀ (j : Nat) x y, cs[j]? = some x → (flat ds)[j]? = some y → Rd I x y) :
    ∃ J, Le I m L J m L ∧ WRel w0 I0 (w.alloc (.cells cs e)) J m L ∧ Rd J (.slice (some ⟨w.heap.size, 0, none⟩) n n) (.slice size ds) := by
  have hno := hrel.sat.noB (Nat.le_refl w.heap.size)
  let J := I.withCells w.heap.size cs.toList
  have hle : I.le J := ⟨fun b o v hc => by
    have hb : b ≠ w.heap.size := by rintro rfl; rw [hno.1 o] at hc; cases hc
    simp [J, Imm.withCells, hb, hc], fun _ _ h => h, fun _ h => h⟩
  have hout : ∀ b, b ≠ w.heap.size → J.cell b = I.cell b := fun b hb => by funext o; simp [J, Imm.withCells, hb]
  have hsat : SatI (w.alloc (.cells cs e)) J := ⟨fun b o v hc => by
    by_cases hb : b = w.heap.size
    · subst hb
      simp only [J, Imm.withCells, if_true] at hc
      rw [World.cell?_alloc_new]
      cases hx : cs[o]? with
      | none => simp [hx, hno.1 o] at hc
      | some x => simpa [hx] using hc
    · rw [hout b hb] at hc
      rw [World.cell?_alloc_lt w _ _ (hrel.sat.lt hc)]; exact hrel.sat.cell b o v hc, fun b es hc => by
    have hh := hrel.sat.mp b es hc
    exact MapAt.to (Below.heap_alloc w _ b (hrel.sat.ltm hc)) hh, fun b hd => (Below.heap_alloc w _ b (hrel.sat.ltd hd)).trans (hrel.sat.df b hd), fun g d h => (hrel.sat.glob g d h).mono hle⟩
  obtain ⟨r1, r2⟩ := hrel.call (Bel.alloc (Bel.refl _ _) (Nat.le_refl _) _) (.of hle (fun b hb => hout b (by omega)) (fun _ _ => rfl)) hsat
  refine ⟨J, r2, r1, .slice _ 0 n n size ds (fun k => (cs[k]?).getD undef) hn (Nat.le_refl _) hmax hs (fun k hk => ?_) (fun k x hx => ?_)⟩
  · have : cs[k]? = some (cs[k]'(by omega)) := Array.getElem?_eq_getElem (by omega)
    simp [J, Imm.withCells, this]
  · have hk : k < n * size := by rw [← hn, ← flat_len ds (fun d hd => (hs d hd).1)]; exact (List.getElem?_eq_some_iff.1 hx).1
    have : cs[k]? = some (cs[k]'(by omega)) := Array.getElem?_eq_getElem (by omega)
    rw [this]; exact (hrd k _ x this hx).mono hle
theorem mapM_parts : ∀ (ps : List (Nat × Operand)) (ds : List D), (∀ p ∈ ps, RdT I m L (ρ p.2) (ρT p.2)) → ps.mapM (fun p => unD1 (ρT p.2)) = some ds → ps.length = ds.length ∧ ∀ (i : Nat) p d, ps[i]? = some p → ds[i]? = some d → Rd I (ρ p.2) d
  | [], ds, _, h => by simp at h; subst h; simp
  | p :: ps, ds, hr, h => by
    simp only [List.mapM_cons, Option.bind_eq_bind, Option.bind_eq_some_iff, Option.pure_def, Option.some.injEq] at h
    obtain ⟨x, hx, xs, hxs, rfl⟩ := h
    obtain ⟨h1, h2⟩ := mapM_parts ps xs (fun q hq => hr q (by simp [hq])) hxs
    refine ⟨by simp [h1], fun i q d hq hd => ?_⟩
    rcases i with _ | i
    · simp at hq hd; subst hq; subst hd; exact rd_unD1 (hr p (by simp)) hx
    · simp at hq hd; exact h2 i q d hq hd
theorem buildSlice_ok (hE : TOk P V.E) (hrel : WRel w0 I0 w I m L) {t e : TypeId} {sz bt : Nat} {z : List D} {len : Nat} {parts : Array (Nat × Operand)} {ds : List D} (hs : V.E t = some ⟨sz, bt, z, .slice e⟩)
    (p1 : parts.toList.length = ds.length) (p2 : ∀ (i : Nat) p d, parts.toList[i]? = some p → ds[i]? = some d → Rd I (ρ p.2) d) (he : (V.E e).isSome = true ∧ 0 < sizeE V.E e) (hlen : len ≠ 0)
    (hc : parts.toList.map (·.1) = List.range len ∧ len * sizeE V.E e ≤ 16777216 ∧ ds.all (fun d => d.cells.length == sizeE V.E e && d.cells.all D.one) = true) :
    ∃ w' J, (Instr.buildSlice t len (parts.map fun (i, x) => (i, ρ x))).run P w = .ok (.slice (some ⟨w.heap.size, 0, none⟩) len len) w' ∧ Le I m L J m L ∧ WRel w0 I0 w' J m L ∧ Rd J (.slice (some ⟨w.heap.size, 0, none⟩) len len) (.slice (sizeE V.E e) ds) := by
  have hu := underlying_slice hE hs
  obtain ⟨hc1, hc3, hc4⟩ := hc
  obtain ⟨i, hi⟩ := Option.isSome_iff_exists.1 he.1
  obtain ⟨x, zv, k1, k2, k3, k4, k5, k6, k7, k8⟩ := tiOk_parts (hE e i hi)
  have hsz : sizeE V.E e = i.size := by simp [sizeE, hi]
  rw [hsz] at hc3 hc4 ⊢
  have hpos : 0 < i.size := by rw [← hsz]; exact he.2
  have hpl : parts.toList.length = len := by have := congrArg List.length hc1; simpa using this
  have hdl : ds.length = len := by omega
  have hall : ∀ d ∈ ds, d.cells.length = i.size ∧ ∀ y ∈ d.cells, y.one = true := fun d hd => by
    have := List.all_eq_true.1 hc4 d hd
    simp only [Bool.and_eq_true, beq_iff_eq, List.all_eq_true] at this
    exact this
  have hcells : ∀ (j : Nat) p d, parts.toList[j]? = some p → ds[j]? = some d → Cells I (ρ p.2).cells.toList d.cells := fun j p d hp hd =>
    rd_cells (p2 j p d hp hd) (List.all_eq_true.2 (hall d (List.mem_of_getElem? hd)).2)
  have hvsz : ∀ v ∈ parts.toList.map (fun p => ρ p.2), v.cells.size = i.size := by
    intro v hv
    obtain ⟨p, hp, rfl⟩ := List.mem_map.1 hv
    obtain ⟨j, hj, rfl⟩ := List.mem_iff_getElem.1 hp
    have hjd : j < ds.length := by omega
    have := (hcells j _ _ (List.getElem?_eq_getElem hj) (List.getElem?_eq_getElem hjd)).1
    have h2 := (hall _ (List.getElem_mem hjd)).1
    rw [Array.length_toList] at this; omega
  obtain ⟨r, hf, hrs, hrk⟩ := Great.fill_dense hpos (parts.toList.map fun p => ρ p.2) 0 ((Array.range (len * i.size)).map (zv.cells[· % zv.cells.size]!)) hvsz (by simp [hpl])
  have hzip : (parts.map fun (i, x) => (i, ρ x)).toList = ((parts.toList.map fun p => ρ p.2).zipIdx 0).map fun x => (x.2, x.1) := by
    apply List.ext_getElem?
    intro j
    simp only [Array.toList_map, List.getElem?_map, List.getElem?_zipIdx, Nat.zero_add, Option.map_map]
    cases hp : parts.toList[j]? with
    | none => simp
    | some p =>
      have hj : j < len := by rw [← hpl]; exact (List.getElem?_eq_some_iff.1 hp).1
      have : (parts.toList.map (·.1))[j]? = some p.1 := by rw [List.getElem?_map, hp]; rfl
      rw [hc1, List.getElem?_range hj] at this
      injection this with this
      simp [this]
  have hrun := run_buildSlice (P := P) w t e len (parts.map fun (i, x) => (i, ρ x)) r x zv hu k1 k4 (by rw [k2]; omega) (by rw [k2]; have := Nat.mul_pos (Nat.pos_of_ne_zero hlen) hpos; omega) (by rw [hzip, k2]; exact hf)
  have hrsize : r.size = len * i.size := by rw [hrs]; simp
  obtain ⟨J, r2, r1, hrd⟩ := hrel.known e r i.size ds len hdl hall hrsize (by unfold maxLen; have : len ≤ len * i.size := Nat.le_mul_of_pos_right _ hpos; omega) (fun j u y hu hy => by
    have hjl : j < len * i.size := by rw [← hrsize]; exact (Array.getElem?_eq_some_iff.1 hu).1
    rw [hrk j, if_pos (by simp [hpl]; exact hjl)] at hu
    simp only [Nat.sub_zero, List.getElem?_map] at hu
    have hq : j / i.size < len := Nat.div_lt_of_lt_mul (by rw [Nat.mul_comm]; exact hjl)
    have hrem : j % i.size < i.size := Nat.mod_lt _ hpos
    have hp : parts.toList[j / i.size]? = some (parts.toList[j / i.size]'(by omega)) := List.getElem?_eq_getElem (by omega)
    have hd : ds[j / i.size]? = some (ds[j / i.size]'(by omega)) := List.getElem?_eq_getElem (by omega)
    rw [hp] at hu
    have hfl := flat_get ds (fun d hd => (hall d hd).1) (j / i.size) (j % i.size) _ hd hrem
    rw [Nat.mul_comm, Nat.div_add_mod] at hfl
    rw [hfl] at hy
    exact (hcells _ _ _ hp hd).2.2 (j % i.size) u y (by simpa using hu) hy)
  exact ⟨_, J, hrun, r2, r1, hrd⟩
theorem WRel.push_row (hrel : WRel w0 I0 w I m l) {w' : World} {e size : Nat} {els : List D} {v : Value} {row : Option Nat} {lo : List AO} (hlo : lo.length = l.length) (hdie : ∀ (k : Nat) a, lo[k]? = some a → a = .dead ∨ l[k]? = some a)
    (hvars : ∀ (k : Nat) a, a.isVar = true → l[k]? = some a → lo[k]? = some a)
    (hg : w.grownBy w' row) (hdr : w.drawn ≤ w'.drawn) (hfree : ∀ b, row = some b → w0.heap.size ≤ b ∧ I.noB b ∧ ∀ k, alive lo k = true → own (m k) ≠ some b) (hndf : ∀ b, row = some b → ¬ I.df b) (hfresh : ∀ b, own v = some b → w0.heap.size ≤ b ∧ I.noB b ∧ ∀ k, alive lo k = true → own (m k) ≠ some b)
    {xs : List Value} (hrow : w'.ownsRow w0.heap.size e size v els.length xs) (hs : ∀ d ∈ els, d.cells.length = size ∧ ∀ x ∈ d.cells, x.one = true) (hrd : ∀ (j : Nat) x y, xs[j]? = some x → (flat els)[j]? = some y → Rd I x y) (hsl : ∃ A n c, v = .slice A n c) :
    Le I m l I (upd m l.length v) (lo ++ [.row e size els]) ∧ WRel w0 I0 w' I (upd m l.length v) (lo ++ [.row e size els]) ∧ RdT I (upd m l.length v) (lo ++ [.row e size els]) v (.row l.length) := by
  have hget : ∀ k, k < l.length → (lo ++ [AO.row e size els])[k]? = lo[k]? := fun k hk => List.getElem?_append_left (by omega)
  have hlast : (lo ++ [AO.row e size els])[l.length]? = some (.row e size els) := by rw [← hlo]; simp
  have hle : Le I m l I (upd m l.length v) (lo ++ [.row e size els]) := by
    refine ⟨.refl I, by simp; omega, fun id hid hv => ⟨?_, upd_ne m v (by omega)⟩, fun id hid hr => ⟨?_, upd_ne m v (by omega)⟩, fun id e' s' els' hid hh => ?_⟩
    · unfold isVar at hv ⊢; rw [hget id hid]
      cases ho : l[id]? with
      | none => simp [ho] at hv
      | some o =>
        have hv' : o.isVar = true := by simpa [ho] using hv
        rw [hvars id o hv' ho]; exact hv'
    · unfold isRow at hr ⊢; rw [hget id hid] at hr
      cases ho : lo[id]? with
      | none => simp [ho] at hr
      | some o =>
        rcases hdie id o ho with rfl | h
        · simp [ho, AO.isRow] at hr
        · rw [h]; rw [ho] at hr; exact hr
    · rw [hget id hid] at hh
      rcases hh with hh | hh
      · rcases hdie id _ hh with h | h
        · cases h
        · exact ⟨els', .inl h⟩
      · rcases hdie id _ hh with h | h
        · cases h
        · exact ⟨els', .inr h⟩
  have hblock : ∀ k a, lo[k]? = some a → a ≠ .dead → ∀ b, own (m k) = some b → w'.heap[b]? = w.heap[b]? := by
    intro k a ha hd b hb
    have ha' : l[k]? = some a := (hdie k a ha).resolve_left hd
    refine hg.block b ((hrel.obj k a ha').lt hd hb).1 (fun he => ?_)
    exact (hfree b he.symm).2.2 k (alive_iff.2 ⟨a, ha, hd⟩) hb
  refine ⟨hle, ⟨hrel.below.trans ⟨hg.os, hg.tape, hg.output, hg.size, fun k hk => hg.block k (by have := hrel.below.size; omega) (fun he => by have := (hfree k he.symm).1; omega), fun _ => hdr⟩, ⟨fun b o u hc => ?_, fun b es hc => ?_, fun b hd => (hg.block b (hrel.sat.ltd hd) (fun he => hndf b he.symm hd)).trans (hrel.sat.df b hd), hrel.sat.glob⟩, hrel.ext, fun id o ho => ?_, fun i j b hij hi hj hbi hbj => ?_⟩, ?_⟩
  · have hne : some b ≠ row := fun he => by rw [(hfree b he.symm).2.1.1 o] at hc; cases hc
    exact (World.cell?_of_block (w := w) (a := ⟨b, o, none⟩) (hg.block b (hrel.sat.lt hc) hne)).trans (hrel.sat.cell b o u hc)
  · have hne : some b ≠ row := fun he => by rw [(hfree b he.symm).2.1.2] at hc; cases hc
    have hh := hrel.sat.mp b es hc
    exact MapAt.to (hg.block b (hrel.sat.ltm hc) hne) hh
  · by_cases hid : id < l.length
    · rw [hget id hid] at ho; rw [upd_ne m v (by omega)]
      by_cases hd : o = .dead
      · subst hd; trivial
      · exact (hrel.obj id o ((hdie id o ho).resolve_left hd)).keep hle (hblock id o ho hd) (fun _ _ => ⟨rfl, rfl⟩)
    · have : id = l.length := by
        have := (List.getElem?_eq_some_iff.1 ho).1; simp at this; omega
      subst this
      rw [hlast] at ho; injection ho with ho; subst ho
      rw [upd_same]
      exact ⟨xs, hrow, hs, hrd, fun b hb => (hfresh b hb).2.1⟩
  · have hal : ∀ k, k ≠ l.length → alive (lo ++ [AO.row e size els]) k = true → alive lo k = true ∧ k < l.length := by
      intro k hk ha
      obtain ⟨o, ho, hd⟩ := alive_iff.1 ha
      have hkl : k < l.length := by have := (List.getElem?_eq_some_iff.1 ho).1; simp at this; omega
      rw [hget k hkl] at ho
      exact ⟨alive_iff.2 ⟨o, ho, hd⟩, hkl⟩
    by_cases h1 : i = l.length
    · subst h1; rw [upd_same] at hbi; rw [upd_ne m v (Ne.symm hij)] at hbj
      exact (hfresh b hbi).2.2 j (hal j (Ne.symm hij) hj).1 hbj
    · by_cases h2 : j = l.length
      · subst h2; rw [upd_same] at hbj; rw [upd_ne m v hij] at hbi
        exact (hfresh b hbj).2.2 i (hal i hij hi).1 hbi
      · rw [upd_ne m v h1] at hbi; rw [upd_ne m v h2] at hbj
        have a1 := (hal i h1 hi).1
        have a2 := (hal j h2 hj).1
        obtain ⟨o1, q1, d1⟩ := alive_iff.1 a1
        obtain ⟨o2, q2, d2⟩ := alive_iff.1 a2
        exact hrel.sep i j b hij (alive_iff.2 ⟨o1, (hdie i o1 q1).resolve_left d1, d1⟩) (alive_iff.2 ⟨o2, (hdie j o2 q2).resolve_left d2, d2⟩) hbi hbj
  · obtain ⟨A, n, c, rfl⟩ := hsl
    exact .row A n c _ (by simp; omega) (fun _ => upd_same m _ _)
end
end Go.Eva
namespace Go.Eva
open Go Go.RowKit
variable [Drw]
section
variable {P : Program} {V : Env} {w0 w : World} {I0 I : Imm} {m : Nat → Value} {l L : List AO} {nid : Nat} {o : Oper} {ρ : Operand → Value} {ρT : Operand → T}
theorem run_append_of_nil (base : Nat) (t ty e : TypeId) (i : TypeInfo) (size : Nat) (ht : P.underlying t = some (.slice e)) (hi : P.info? e = some i)
    (v : Value) (n : Nat) (xs : List Value) (hown : w.ownsRow base e size v n xs) (c : Nat) : (Builtin.append_ #[t, t] ty #[v, .slice none 0 c]).run P w = .ok v w := by
  rcases hown.2 with ⟨rfl, rfl⟩ | ⟨g, cap, cur, rfl, _, _, hnc, _⟩
  · simp [Builtin.append_, run_underlying ht, sizeOf, typeInfo, hi, Builtin.lenOf, Builtin.firstCells]
  · simp [Builtin.append_, run_underlying ht, sizeOf, typeInfo, hi, Builtin.lenOf, Builtin.firstCells, hnc, storeCells]
theorem run_append_rd (hE : TOk P V.E) (hsat : SatI w I) {t ty e : TypeId} {i : TI} (hu : P.underlying t = some (.slice e)) (hi : V.E e = some i) (hpos : 0 < i.size) {base : Nat} {v vx : Value} {n size' : Nat} {xs : List Value} {new : List D}
    (hown : w.ownsRow base e i.size v n xs) (hx : Rd I vx (.slice size' new)) (hsz : size' = i.size ∨ new.isEmpty = true) (hb : (n + new.length) * i.bytes ≤ 140737488355328) (hmax : n + new.length ≤ 9223372036854775807) (hbase : base ≤ w.heap.size) :
    ∃ v' w' news, (Builtin.append_ #[t, t] ty #[v, vx]).run P w = .ok v' w' ∧ w'.ownsRow base e i.size v' (n + new.length) (xs ++ news) ∧ w.grownBy w' v.ownBlock ∧ (v'.ownBlock = v.ownBlock ∨ v'.ownBlock = some w.heap.size) ∧
      (∀ d ∈ new, d.cells.length = i.size ∧ ∀ x ∈ d.cells, x.one = true) ∧ (∀ (j : Nat) x y, news[j]? = some x → (flat new)[j]? = some y → Rd I x y) := by
  obtain ⟨x, zv, k1, k2, k3, k4, k5, k6, k7, k8⟩ := tiOk_parts (hE e i hi)
  have hzs : zv.cells.size = i.size := by have := (zerosOk_rd I _ _ k5).1; rw [Array.length_toList] at this; omega
  cases hx with
  | slice0 A c _ hc =>
    cases A with
    | none => exact ⟨v, w, [], run_append_of_nil base t ty e x i.size hu k1 v n xs hown c, by simpa using hown, World.grownBy.refl w _, .inl rfl, by simp, by simp⟩
    | some a =>
      obtain ⟨v', w', h1, h2, h3, _, h5⟩ := run_append_own_at (P := P) w base t ty e x zv i.size i.bytes hu k1 k4 k2 k3 hzs hpos v n xs hown a 0 c [] (by simp) (by simp) (by simp) (by unfold maxLen; simp at hmax; omega) (by simpa using hb) hbase
      exact ⟨v', w', [], h1, by simpa using h2, h3, h5, by simp, by simp⟩
  | slice b off n' c size els val q1 q2 q3 q4 q5 q6 =>
    subst q1
    rcases hsz with hsz | hsz
    · subst hsz
      have hnews : ∀ (j : Nat) u, ((List.range (new.length * i.size)).map val)[j]? = some u → w.cell? ((⟨b, off, none⟩ : Addr).add j) = some u := by
        intro j u hu
        rw [List.getElem?_map] at hu
        by_cases hj : j < new.length * i.size
        · rw [List.getElem?_range hj] at hu
          simp at hu
          rw [Addr.add_mid, hsat.cell _ _ _ (q5 j hj), hu]
        · rw [List.getElem?_eq_none (by simp; omega)] at hu; cases hu
      have hread : ∀ (j : Nat) x y, ((List.range (new.length * i.size)).map val)[j]? = some x → (flat new)[j]? = some y → Rd I x y := by
        intro j u y hu hy
        have hj : j < new.length * i.size := by rw [← flat_len new (fun d hd => (q4 d hd).1)]; exact (List.getElem?_eq_some_iff.1 hy).1
        rw [List.getElem?_map, List.getElem?_range hj] at hu
        simp at hu; subst hu
        exact q6 j y hy
      have hone : ∀ u ∈ (List.range (new.length * i.size)).map val, u.oneCell' = true := by
        intro u hu
        obtain ⟨j, hj, rfl⟩ := List.mem_iff_getElem.1 hu
        have hj' : j < (flat new).length := by rw [flat_len new (fun d hd => (q4 d hd).1)]; simpa using hj
        have hy : (flat new)[j]? = some (flat new)[j] := List.getElem?_eq_getElem hj'
        refine (hread j _ _ (List.getElem?_eq_getElem hj) hy).one ?_
        obtain ⟨d, hd, hdy⟩ := List.mem_flatMap.1 (List.getElem_mem hj')
        exact (q4 d hd).2 _ hdy
      obtain ⟨v', w', h1, h2, h3, _, h5⟩ := run_append_own_at (P := P) w base t ty e x zv i.size i.bytes hu k1 k4 k2 k3 hzs hpos v n xs hown ⟨b, off, none⟩ new.length c ((List.range (new.length * i.size)).map val) (by simp) hnews hone (by unfold maxLen; omega) hb hbase
      exact ⟨v', w', _, h1, h2, h3, h5, q4, hread⟩
    · have : new = [] := by simpa using hsz
      subst this
      obtain ⟨v', w', h1, h2, h3, _, h5⟩ := run_append_own_at (P := P) w base t ty e x zv i.size i.bytes hu k1 k4 k2 k3 hzs hpos v n xs hown ⟨b, off, none⟩ 0 c [] (by simp) (by simp) (by simp) (by unfold maxLen; simp at hmax; omega) (by simpa using hb) hbase
      exact ⟨v', w', [], h1, by simpa using h2, h3, h5, by simp, by simp⟩
theorem ownsRow_own {B : Nat} {e : TypeId} {size n : Nat} {v : Value} {xs : List Value} (h : w.ownsRow B e size v n xs) : own v = v.ownBlock ∧ ∃ A n c, v = .slice A n c := by
  rcases h.2 with ⟨rfl, _⟩ | ⟨g, cap, cur, rfl, _⟩
  · exact ⟨rfl, _, _, _, rfl⟩
  · exact ⟨rfl, _, _, _, rfl⟩
theorem append_ok (hE : TOk P V.E) (hrel : WRel w0 I0 w I m l) {t ty : TypeId} {vs vx : Value} {s x : T} (hs : RdT I m l vs s) (hx : RdT I m l vx x) (hn : nid = l.length) (hob : (appendT V.E t l nid s x).ob) :
    ∃ l' v' w' J m', (appendT V.E t l nid s x).eff = .upd l' ∧ (Builtin.append_ #[t, t] ty #[vs, vx]).run P w = .ok v' w' ∧ Le I m l J m' l' ∧ WRel w0 I0 w' J m' l' ∧ RdT J m' l' v' (appendT V.E t l nid s x).t := by
  subst hn
  unfold appendT at hob ⊢
  split at hob
  · rename_i e hs1
    split at hob
    · rename_i i hi
      have hu := underlying_slice hE hs1
      split at hob
      · rename_i sx new l1 hd
        obtain ⟨J, le1, r1, rx, hl1⟩ := toD_ok hrel hx hd
        split at hob
        · rename_i hcond
          rw [if_pos hcond]
          split at hob
          · -- onto nil
            rename_i ns
            cases hs
            obtain ⟨v', w', news, h1, h2, h3, h4, h5, h6⟩ := run_append_rd (ty := ty) hE r1.sat hu hi hcond.2 (World.ownsRow_nil w w0.heap.size e i.size) rx (hcond.1) (by simpa using hob.1) (by simpa using hob.2) r1.below.size
            obtain ⟨o1, o2⟩ := ownsRow_own h2
            have hfresh : ∀ b, own v' = some b → w0.heap.size ≤ b ∧ J.noB b ∧ ∀ k, alive l1 k = true → own (m k) ≠ some b := by
              intro b hb
              have : b = w.heap.size := by
                rw [o1] at hb
                rcases h4 with h4 | h4
                · rw [h4] at hb; cases hb
                · rw [h4] at hb; injection hb with hb; exact hb.symm
              subst this
              refine ⟨r1.below.size, r1.sat.noB (Nat.le_refl _), fun k hk he => ?_⟩
              obtain ⟨a, ha, hda⟩ := alive_iff.1 hk
              have := ((r1.obj k a ha).lt hda he).1; omega
            obtain ⟨q1, q2, q3⟩ := r1.push_row (v := v') (lo := l1) (e := e) (size := i.size) (els := new) rfl (fun k a ha => .inr ha) (fun _ _ _ h => h) h3 (run_drawn _ _ _ _ _ h1) (fun b hb => by simp [Value.ownBlock] at hb) (fun b hb => by simp [Value.ownBlock] at hb) hfresh (by simpa using h2) h5 (by simpa using h6) o2
            rw [hl1] at q1 q2 q3
            exact ⟨_, v', w', J, _, rfl, h1, le1.trans q1, q2, q3⟩
          · -- onto a row
            rename_i id
            split at hob
            · rename_i e' size els ho
              split at hob
              · rename_i hcc
                obtain ⟨rfl, hsize, _⟩ := hcc
                subst hsize
                rw [if_pos ⟨rfl, rfl, hl1.symm⟩]
                have hs' := hs.mono le1
                obtain ⟨A, n, c, hvs, hm⟩ : ∃ A n c, vs = .slice A n c ∧ m id = vs := by
                  cases hs' with
                  | row A n c _ p1 p2 => exact ⟨A, n, c, rfl, p2 (by simp [isRow, ho, AO.isRow])⟩
                obtain ⟨xs, k1, k2, k3, k4⟩ := r1.obj id _ ho
                rw [hm] at k1 k4
                obtain ⟨v', w', news, h1, h2, h3, h4, h5, h6⟩ := run_append_rd (ty := ty) hE r1.sat hu hi hcond.2 k1 rx hcond.1 hob.1 hob.2 r1.below.size
                obtain ⟨o1, o2⟩ := ownsRow_own h2
                obtain ⟨o3, _⟩ := ownsRow_own k1
                have hidl : id < l1.length := (List.getElem?_eq_some_iff.1 ho).1
                have hlo : ∀ (k : Nat) a, (l1.set id .dead)[k]? = some a → a = .dead ∨ l1[k]? = some a := by
                  intro k a ha
                  rw [List.getElem?_set] at ha
                  split at ha
                  · first
                      | (injection ha with ha; exact .inl ha.symm)
                      | (split at ha <;> first | (injection ha with ha; exact .inl ha.symm) | cases ha)
                  · exact .inr ha
                have hal : ∀ k, alive (l1.set id .dead) k = true → k ≠ id ∧ alive l1 k = true := by
                  intro k hk
                  obtain ⟨a, ha, hda⟩ := alive_iff.1 hk
                  refine ⟨?_, alive_iff.2 ⟨a, (hlo k a ha).resolve_left hda, hda⟩⟩
                  rintro rfl
                  rw [List.getElem?_set, if_pos rfl, if_pos hidl] at ha
                  injection ha with ha; exact hda ha.symm
                have hold : ∀ b, own vs = some b → w0.heap.size ≤ b ∧ J.noB b ∧ ∀ k, alive (l1.set id .dead) k = true → own (m k) ≠ some b := by
                  intro b hb
                  refine ⟨((r1.obj id _ ho).lt (by simp) (by rw [hm]; exact hb)).2, k4 b hb, fun k hk he => ?_⟩
                  obtain ⟨hne, hk'⟩ := hal k hk
                  exact r1.sep k id b hne hk' (alive_iff.2 ⟨_, ho, by simp⟩) he (by rw [hm]; exact hb)
                have hfresh : ∀ b, own v' = some b → w0.heap.size ≤ b ∧ J.noB b ∧ ∀ k, alive (l1.set id .dead) k = true → own (m k) ≠ some b := by
                  intro b hb
                  rw [o1] at hb
                  rcases h4 with h4 | h4
                  · rw [h4, ← o3] at hb; exact hold b hb
                  · rw [h4] at hb; injection hb with hb; subst hb
                    refine ⟨r1.below.size, r1.sat.noB (Nat.le_refl _), fun k hk he => ?_⟩
                    obtain ⟨a, ha, hda⟩ := alive_iff.1 (hal k hk).2
                    have := ((r1.obj k a ha).lt hda he).1; omega
                obtain ⟨q1, q2, q3⟩ := r1.push_row (v := v') (lo := l1.set id .dead) (e := e') (size := i.size) (els := els ++ new) (xs := xs ++ news) (by simp) hlo
                  (fun k a hav hk => by
                    rw [List.getElem?_set, if_neg ?_]; exact hk
                    rintro rfl; rw [ho] at hk; cases hk; cases hav)
                  h3 (run_drawn _ _ _ _ _ h1) (fun b hb => hold b (by rw [o3]; exact hb)) (fun b hb => r1.sat.ndfRow k1 (by rw [o3]; exact hb)) hfresh (by simpa using h2)
                  (fun d hd => by rcases List.mem_append.1 hd with h | h; exact k2 d h; exact h5 d h)
                  (fun j u y hu' hy => by
                    rw [flat_append, List.getElem?_append] at hy
                    rw [List.getElem?_append] at hu'
                    have : xs.length = (flat els).length := by rw [flat_len els (fun d hd => (k2 d hd).1)]; exact k1.1
                    rw [this] at hu'
                    by_cases hj : j < (flat els).length
                    · rw [if_pos hj] at hy hu'; exact k3 j u y hu' hy
                    · rw [if_neg hj] at hy hu'; exact h6 _ u y hu' hy) o2
                rw [hl1] at q1 q2 q3
                exact ⟨_, v', w', J, _, rfl, h1, le1.trans q1, q2, q3⟩
              · exact hob.elim
            · exact hob.elim
          · exact hob.elim
        · exact hob.elim
      · exact hob.elim
    · exact hob.elim
  · exact hob.elim
theorem typed_ok {E : TEnv} {t : TypeId} {v : Value} {x : T} (h : RdT I m L v x) : RdT I m L v (typed E t x) := by
  unfold typed
  split
  · cases h; exact .nils _
  · exact h
theorem typedAll_ok {E : TEnv} : ∀ (ts : List TypeId) (vs : List Value) (xs : List T), (∀ (i : Nat) v x, vs[i]? = some v → xs[i]? = some x → RdT I m L v x) → (typedAll E ts xs).length = xs.length ∧ ∀ (i : Nat) v x, vs[i]? = some v → (typedAll E ts xs)[i]? = some x → RdT I m L v x
  | [], vs, xs, h => by simp [typedAll]; exact h
  | t :: ts, vs, [], h => by simp [typedAll]
  | t :: ts, vs, x :: xs, h => by
    match vs with
    | [] => simp [typedAll]; exact (typedAll_ok (E := E) ts [] xs (by simp)).1
    | v :: vs =>
      obtain ⟨h1, h2⟩ := typedAll_ok (E := E) ts vs xs (fun i v x hv hx => h (i + 1) v x (by simpa using hv) (by simpa using hx))
      simp only [typedAll]
      refine ⟨by simp [h1], fun i u y hu hy => ?_⟩
      rcases i with _ | i
      · simp at hu hy; subst hu; subst hy; exact typed_ok (h 0 v x rfl rfl)
      · simp at hu hy; exact h2 i u y hu hy
theorem run_call_value {c : Call} {f : Operand} {g : FuncId} (hcal : c.callee = .value f) (ho : o.op = .call c) (hf : ρ f = .func (.func g) #[] #[]) (hen : Enters P g) : (execOp ρ o).run P w = .ok (.enter g (c.args.map ρ)) w := by
  unfold execOp
  simp only [ho, resolve, hcal, hf, Deferred.ofValue, Sem.run_bind, Sem.run_pure, Result.andThen_ok, invoke]
  simpa using hen (c.args.map ρ) w
def cloOf (E : TEnv) (ρ : Operand → T) (o : Oper) : Option (FuncId × List T) := match o.op with
  | .call c => (match c.callee with
    | .value f => (match ρ f with
      | .clo g ts => some (g, typedAll E c.argTypes.toList (c.args.toList.map ρ) ++ ts)
      | .d (.fn g) => some (g, typedAll E c.argTypes.toList (c.args.toList.map ρ))
      | .d (.clo g ds) => some (g, typedAll E c.argTypes.toList (c.args.toList.map ρ) ++ ds.map .d)
      | _ => none)
    | _ => none)
  | _ => none
theorem cloOf_congr {E : TEnv} {ρ ρ' : Operand → T} {o : Oper} (h : ∀ x ∈ o.op.operands, ρ x = ρ' x) : cloOf E ρ o = cloOf E ρ' o := by
  unfold cloOf
  split
  · rename_i c ho
    split
    · rename_i f hf
      have h1 := h f (by simp [ho, Op.operands, Call.operands, hf])
      have h2 : c.args.toList.map ρ = c.args.toList.map ρ' := List.map_congr_left fun x hx => h x (by simp [ho, Op.operands, Call.operands]; right; simpa using hx)
      rw [h1, h2]
    · rfl
  · rfl
theorem cloOf_run {E : TEnv} {g : FuncId} {ts : List T} (hen : Enters P g) (hr : ∀ x ∈ o.op.operands, RdT I m L (ρ x) (ρT x)) (h : cloOf E ρT o = some (g, ts)) :
    ∃ args : Array Value, (execOp ρ o).run P w = .ok (.enter g args) w ∧ args.size = ts.length ∧ ∀ (i : Nat) v x, args[i]? = some v → ts[i]? = some x → RdT I m L v x := by
  unfold cloOf at h
  split at h
  · rename_i c ho
    split at h
    · rename_i f hcal
      have hf := hr f (by simp [ho, Op.operands, Call.operands, hcal])
      have hargs : ∀ (i : Nat) v x, (c.args.toList.map ρ)[i]? = some v → (c.args.toList.map ρT)[i]? = some x → RdT I m L v x := by
        intro i v x hv hx
        rw [List.getElem?_map] at hv hx
        cases ha : c.args.toList[i]? with
        | none => simp [ha] at hv
        | some a =>
          simp [ha] at hv hx
          subst hv; subst hx
          refine hr a ?_
          simp only [ho, Op.operands, Call.operands, hcal]
          have := List.mem_of_getElem? ha
          simp at this ⊢
          exact .inr this
      obtain ⟨htl, hargs'⟩ := typedAll_ok (E := E) c.argTypes.toList _ _ hargs
      generalize hva : ρ f = vf at hf
      split at h
      · rename_i g' cs hT
        rw [hT] at hf
        injection h with h; injection h with h1 h2; subst h1
        cases hf with
        | clo _ vs _ q1 q2 =>
          refine ⟨c.args.map ρ ++ vs, ?_, ?_, fun i v x hv hx => ?_⟩
          · unfold execOp
            simp only [ho, resolve, hcal, hva, Deferred.ofValue, Sem.run_bind, Sem.run_pure, Result.andThen_ok, invoke]
            simpa using hen (c.args.map ρ ++ vs) w
          · rw [← h2]; simp [htl, q1]
          · rw [← h2] at hx
            by_cases hi : i < (c.args.map ρ).size
            · rw [Array.getElem?_append_left hi] at hv
              rw [List.getElem?_append_left (by rw [htl]; simpa using hi)] at hx
              exact hargs' i v x (by simpa using hv) hx
            · rw [Array.getElem?_append_right (by omega)] at hv
              rw [List.getElem?_append_right (by rw [htl]; simpa using hi)] at hx
              rw [htl] at hx
              simp at hv hx hi
              exact q2 _ v x hv hx
      · rename_i g' hT
        rw [hT] at hf
        injection h with h; injection h with h1 h2; subst h1
        have := rdD hf
        cases this
        refine ⟨c.args.map ρ, ?_, by rw [← h2, htl]; simp, fun i v x hv hx => hargs' i v x (by simpa using hv) (by rw [h2]; exact hx)⟩
        unfold execOp
        simp only [ho, resolve, hcal, hva, Deferred.ofValue, Sem.run_bind, Sem.run_pure, Result.andThen_ok, invoke]
        simpa using hen (c.args.map ρ) w
      · rename_i g' cs hT
        rw [hT] at hf
        injection h with h; injection h with h1 h2; subst h1
        have hf2 := rdD hf
        cases hf2 with
        | clo _ vs _ q1 q2 =>
          refine ⟨c.args.map ρ ++ vs, ?_, ?_, fun i v x hv hx => ?_⟩
          · unfold execOp
            simp only [ho, resolve, hcal, hva, Deferred.ofValue, Sem.run_bind, Sem.run_pure, Result.andThen_ok, invoke]
            simpa using hen (c.args.map ρ ++ vs) w
          · rw [← h2]; simp [htl, q1]
          · rw [← h2] at hx
            by_cases hi : i < (c.args.map ρ).size
            · rw [Array.getElem?_append_left hi] at hv
              rw [List.getElem?_append_left (by rw [htl]; simpa using hi)] at hx
              exact hargs' i v x (by simpa using hv) hx
            · rw [Array.getElem?_append_right (by omega)] at hv
              rw [List.getElem?_append_right (by rw [htl]; simpa using hi)] at hx
              rw [htl, List.getElem?_map] at hx
              simp only [List.length_map, Array.length_toList] at hx
              simp only [Array.size_map] at hv
              cases hd : cs[i - c.args.size]? with
              | none => rw [hd] at hx; simp at hx
              | some d => rw [hd] at hx; simp at hx; subst hx; exact .d _ _ (q2 _ v d hv hd)
      · cases h
    · cases h
  · cases h
theorem unbox_ok {v : Value} {t : T} (h : RdT I m L v t) : RdT I m L v (unbox t) := by
  unfold unbox
  split
  · have := rdD h
    cases this with
    | box _ _ val h1 h2 h3 =>
      rename_i d b
      have := RdT.eptr (I := I) (m := m) (l := L) b 0 d.cells.length [d] 0 0 val (by simp) (fun x hx => by simp at hx; subst hx; exact ⟨rfl, h1⟩) (fun j hj => by rw [Nat.zero_add]; exact h2 j (by simpa using hj)) (fun j x hx => h3 j x (by simpa [flat] using hx))
      simpa using this
  · exact h
theorem dataT_some {t : T} {d : D} (h : dataT t = some d) : t = .d d := by
  unfold dataT at h; split at h
  · injection h with h; subst h; rfl
  · cases h
theorem mapM_dataT : ∀ {ts : List T} {ds : List D}, ts.mapM dataT = some ds → ts = ds.map .d
  | [], ds, h => by simp at h; subst h; rfl
  | t :: ts, ds, h => by
    rw [List.mapM_cons] at h
    cases ht : dataT t with
    | none => simp [ht] at h
    | some d =>
      cases hts : ts.mapM dataT with
      | none => simp [ht, hts] at h
      | some ds' =>
        simp [ht, hts] at h
        subst h
        rw [dataT_some ht, mapM_dataT hts]; rfl
theorem cloT_ok {v : Value} {g : FuncId} {ts : List T} (h : RdT I m L v (.clo g ts)) : RdT I m L v (cloT g ts) := by
  unfold cloT
  split
  · rename_i ds hds
    have := mapM_dataT hds
    subst this
    cases h with
    | clo _ vs _ q1 q2 =>
      exact .d _ _ (.clo _ _ _ (by simpa using q1) fun i v d hv hd => rdD (q2 i v (.d d) hv (by simp [hd])))
  · exact h
theorem callD_ok (hV : VOk P V) (hrel : WRel w0 I0 w I m L) (hc : Com l L) {g : FuncId} {ts : List T} (hr : ∀ x ∈ o.op.operands, RdT I m L (ρ x) (ρT x)) (hcl : cloOf V.E ρT o = some (g, ts))
    (hob : (callD V.C g l ts).ob) : RSound P w0 I0 o ρ w I m l L nid (callD V.C g l ts) := by
  unfold callD at hob ⊢
  split at hob
  · rename_i ds l' hd
    split at hob
    · rename_i x ob hC
      obtain ⟨hen, hcon⟩ := hV.C g ds x ob hC hob
      obtain ⟨args, hrun, hlen, hargs⟩ := cloOf_run (P := P) (w := w) (ρ := ρ) hen hr hcl
      have hlen' : args.toList.length = ts.length := by simpa using hlen
      have hargs' : ∀ (i : Nat) v x, args.toList[i]? = some v → ts[i]? = some x → RdT I m L v x := fun i v x hv hx => hargs i v x (by simpa using hv) hx
      have main : ∀ (L' : List AO) (J : Imm), Le I m L J m L' → WRel w0 I0 w J m L' → args.toList.length = ds.length → (∀ (i : Nat) v d, args.toList[i]? = some v → ds[i]? = some d → Rd J v d) →
          Calls P g args w fun e w'' => ∃ v, e = .returned v ∧ ∃ J', Le I m L J' m L' ∧ WRel w0 I0 w'' J' m L' ∧ RdT J' m L' v (.d x) := by
        intro L' J hle hr' hl' hrd
        refine (hcon w J args hr'.sat (by simpa using hl') (fun i v d hv hd' => hrd i v d (by simpa using hv) hd')).mono ?_
        rintro e w'' ⟨v, J', he, hb, hx, hs, hrv⟩
        obtain ⟨q1, q2⟩ := hr'.call hb hx hs
        exact ⟨v, he, J', hle.trans q2, q1, .d _ _ hrv⟩
      unfold RSound
      by_cases hq : ts.all (quietT l) = true
      · simp only [if_pos hq, hrun, StepOk]
        have hL := argsD_com ts hc hq hd
        obtain ⟨J, le1, r1, hl1, hrd, _⟩ := argsD_ok ts L I _ ds L hrel hlen' hargs' hL
        exact (main L J le1 r1 hl1 hrd).mono fun e w'' ⟨v, he, J', h⟩ => ⟨v, he, J', h⟩
      · simp only [if_neg hq, hrun, StepOk]
        rintro rfl hn
        obtain ⟨J, le1, r1, hl1, hrd, _⟩ := argsD_ok ts L I _ ds l' hrel hlen' hargs' hd
        exact (main l' J le1 r1 hl1 hrd).mono fun e w'' ⟨v, he, J', h1, h2, h3⟩ => ⟨v, he, J', m, h1, h2, h3⟩
    · exact hob.elim
  · exact hob.elim
theorem callT_ok (hV : VOk P V) (hrel : WRel w0 I0 w I m L) (hc : Com l L) {g : FuncId} {ts : List T} (hr : ∀ x ∈ o.op.operands, RdT I m L (ρ x) (ρT x)) (hcl : cloOf V.E ρT o = some (g, ts))
    (hob : (callT V g l ts).ob) : RSound P w0 I0 o ρ w I m l L nid (callT V g l ts) := by
  unfold callT at hob ⊢
  split at hob
  · rename_i t l' ob hF
    obtain ⟨hen, hcon⟩ := hV.F g _ l _ hF hob
    obtain ⟨args, hrun, hlen, hargs⟩ := cloOf_run (P := P) (w := w) (ρ := ρ) hen hr hcl
    unfold RSound
    rintro rfl hn
    simp only [hrun, StepOk]
    exact (hcon w0 I0 w I m args hrel hlen hargs).mono fun e w' ⟨v, he, J, m', h1, h2, h3⟩ => ⟨v, he, J, m', h1, h2, h3⟩
  · exact callD_ok hV hrel hc hr hcl hob
theorem slice_form {I : Imm} {v : Value} {s : Nat} {els : List D} (h : Rd I v (.slice s els)) : ∃ A c, v = .slice A els.length c := by
  generalize hD : D.slice s els = dd at h
  cases h <;> first | (cases hD; done) | skip
  · injection hD with _ hD; subst hD; exact ⟨_, _, rfl⟩
  · rename_i q1 _ _ _ _ _
    injection hD with _ hD; subst hD; exact ⟨_, _, by rw [q1]⟩
theorem mapOf_ok (hrel : WRel w0 I0 w I m L) (hc : Com l L) {v : Value} {t : T} {ks vs : List D} (hx : RdT I m L v t) (hm : mapOf l t = some (ks, vs)) :
    ∃ es : Array MapEntry, es.size = ks.length ∧ es.size = vs.length ∧ (∀ (i : Nat) (e : MapEntry) (d : D), es[i]? = some e → ks[i]? = some d → Rd I e.key d) ∧ (∀ (i : Nat) (e : MapEntry) (d : D), es[i]? = some e → vs[i]? = some d → Rd I e.val d) ∧
      ((v = .map none ∧ es = #[]) ∨ ∃ b clk, v = .map (some b) ∧ w.heap[b]? = some (.map es clk)) := by
  unfold mapOf at hm
  split at hm
  · injection hm with hm; injection hm with h1 h2; subst h1; subst h2
    have := rdD hx
    cases this with
    | map0 => exact ⟨#[], rfl, rfl, by simp, by simp, .inl ⟨rfl, rfl⟩⟩
    | map b es _ _ q1 q2 q3 q4 q5 =>
      have hh := hrel.sat.mp b es q1
      exact ⟨es.1, q2, q3, q4, q5, .inr ⟨b, es.2, rfl, hh.1⟩⟩
  · rename_i id
    split at hm
    · rename_i ks' vs' hl
      injection hm with hm; injection hm with h1 h2; subst h1; subst h2
      obtain ⟨b, es, q1, q2, q3, q4, q5, q6, q7, q8⟩ := hrel.obj id _ (hc.get hl)
      cases hx with
      | map r _ p1 p2 =>
        have := p2 (by unfold isRow; rw [hc.get hl]; rfl)
        rw [q1] at this
        exact ⟨es.1, q4, q5, q6, q7, .inr ⟨b, es.2, this.symm, q3.1⟩⟩
    · rename_i ks' vs' hl
      injection hm with hm; injection hm with h1 h2; subst h1; subst h2
      obtain ⟨b, es, q1, q2, q3, q4, q5, q6, q7, q8⟩ := hrel.obj id _ (hc.get hl)
      cases hx with
      | map r _ p1 p2 =>
        have := p2 (by unfold isRow; rw [hc.get hl]; rfl)
        rw [q1] at this
        exact ⟨es.1, q4, q5, q6, q7, .inr ⟨b, es.2, this.symm, q3.1⟩⟩
    · cases hm
  · cases hm
theorem lenT_ok (hE : TOk P V.E) (hrel : WRel w0 I0 w I m L) (hc : Com l L) {v : Value} {x : T} {ty t : TypeId} (hx : RdT I m L v x) (hob : (lenT V.E t l x).ob) :
    (lenT V.E t l x).eff = .none ∧ ∃ u, (Builtin.len_ #[t] ty #[v]).run P w = .ok u w ∧ RdT I m L u (lenT V.E t l x).t := by
  have fin : ∀ (A : Option Addr) (n c : Nat) (e : TypeId), P.underlying t = some (.slice e) → (Builtin.len_ #[t] ty #[.slice A n c]).run P w = .ok (.int .i64 n) w := by
    intro A n c e hu
    simp [Builtin.len_, run_underlying hu, goInt]
  unfold lenT at hob ⊢
  split at hob
  · rename_i hs
    have hu := underlying_string hE hs
    split at hob
    · have := rdD hx; cases this
      exact ⟨rfl, _, by simp [Builtin.len_, run_underlying hu, goInt], .d _ _ (.int _ _)⟩
    · exact hob.elim
  · rename_i e hs
    have hu := underlying_slice hE hs
    split at hob
    · rename_i s els
      obtain ⟨A, c, rfl⟩ := slice_form (rdD hx)
      exact ⟨rfl, _, fin _ _ _ _ hu, .d _ _ (.int _ _)⟩
    · cases hx; exact ⟨rfl, _, fin _ _ _ _ hu, .d _ _ (.int _ _)⟩
    · rename_i id
      have go : ∀ e size els, l[id]? = some (.row e size els) ∨ l[id]? = some (.frow e size els) → ∃ A c, v = .slice A els.length c := by
        intro e size els ho
        have ho' : L[id]? = some (.row e size els) ∨ L[id]? = some (.frow e size els) := by rcases ho with ho | ho; exact .inl (hc.get ho); exact .inr (hc.get ho)
        cases hx with
        | row A n c _ p1 p2 =>
          have hm := p2 (by unfold isRow; rcases ho' with h | h <;> simp [h, AO.isRow])
          have : ∃ xs, w.ownsRow w0.heap.size e size (m id) els.length xs := by
            rcases ho' with h | h
            · obtain ⟨xs, k1, _⟩ := hrel.obj id _ h; exact ⟨xs, k1⟩
            · obtain ⟨xs, k1, _⟩ := hrel.obj id _ h; exact ⟨xs, k1⟩
          obtain ⟨xs, k1⟩ := this
          rw [hm] at k1
          rcases k1.2 with ⟨q, q'⟩ | ⟨g, cap, cur, q, _⟩
          · injection q with q1 q2 q3; rw [q', ← q2]; exact ⟨_, _, rfl⟩
          · injection q with q1 q2 q3; rw [← q2]; exact ⟨_, _, rfl⟩
      split at hob
      · rename_i e size els ho
        obtain ⟨A, c, rfl⟩ := go e size els (.inl ho)
        exact ⟨rfl, _, fin _ _ _ _ hu, .d _ _ (.int _ _)⟩
      · rename_i e size els ho
        obtain ⟨A, c, rfl⟩ := go e size els (.inr ho)
        exact ⟨rfl, _, fin _ _ _ _ hu, .d _ _ (.int _ _)⟩
      · exact hob.elim
    · exact hob.elim
  · rename_i kt e hs
    have hu : P.underlying t = some (.map kt e) := by
      obtain ⟨x, z', _, _, _, _, _, _, h7, _⟩ := tiOk_parts (hE t _ hs)
      simp only [descOk] at h7
      split at h7
      · rename_i k' e' he; simp at h7; obtain ⟨rfl, rfl⟩ := h7; exact he
      · cases h7
    split at hob
    · rename_i ks vs hm
      obtain ⟨es, h1, _, _, _, h2⟩ := mapOf_ok hrel hc hx hm
      try simp only [hm]
      rcases h2 with ⟨rfl, rfl⟩ | ⟨b, clk, rfl, hh⟩
      · refine ⟨rfl, _, by simp [Builtin.len_, run_underlying hu, goInt]; rfl, ?_⟩
        have : ks.length = 0 := by simpa using h1.symm
        rw [this]; exact .d _ _ (.int _ _)
      · refine ⟨rfl, .int .i64 es.size, by simp [Builtin.len_, run_underlying hu, goInt, MapKept.run_getObj_map hh], ?_⟩
        rw [h1]; exact .d _ _ (.int _ _)
    · exact hob.elim
  · exact hob.elim
end
end Go.Eva
namespace Go.Eva
open Go Go.RowKit
variable [Drw]
section
variable {P : Program} {V : Env} {w0 w w' : World} {I0 I : Imm} {m : Nat → Value} {l L : List AO} {nid : Nat} {o : Oper} {ρ : Operand → Value} {ρT : Operand → T}
theorem Le.setKind {id : Nat} {a a' : AO} (h : l[id]? = some a) (hv : a'.isVar = a.isVar) (hr : a'.isRow = a.isRow)
    (hrow : ∀ e size els, a' = .row e size els ∨ a' = .frow e size els → ∃ els', a = .row e size els' ∨ a = .frow e size els') : Le I m l I m (l.set id a') := by
  refine ⟨.refl I, by simp, fun k _ hk => ⟨(isVar_set h hv.symm k).trans hk, rfl⟩, fun k _ hk => ⟨(isRow_set h hr.symm k).symm.trans hk, rfl⟩, fun k e size els hk hh => ?_⟩
  by_cases hki : k = id
  · subst hki
    rw [List.getElem?_set, if_pos rfl, if_pos (List.getElem?_eq_some_iff.1 h).1] at hh
    simp only [Option.some.injEq] at hh
    obtain ⟨els', q⟩ := hrow e size els hh
    exact ⟨els', by rw [h]; rcases q with rfl | rfl <;> simp⟩
  · rw [List.getElem?_set, if_neg (Ne.symm hki)] at hh; exact ⟨els, hh⟩
theorem WRel.turnB (hrel : WRel w0 I0 w I m l) {id b : Nat} {a a' : AO} (ho : l[id]? = some a) (hd : a ≠ .dead) (hown : own (m id) = some b) (hno : I.noB b) (hv : a'.isVar = a.isVar) (hrw : a'.isRow = a.isRow)
    (hle : Le I m l I m (l.set id a')) (hos : w'.os = w.os) (htape : w'.tape = w.tape) (hout : w'.output = w.output) (hdr : w.drawn ≤ w'.drawn) (hsize : w.heap.size ≤ w'.heap.size) (hoth : ∀ k, k ≠ b → w'.heap[k]? = w.heap[k]?)
    (hok : ObjOk w0.heap.size w' I m (l.set id a') (m id) a') : WRel w0 I0 w' I m (l.set id a') := by
  have hlt := (hrel.obj id a ho).lt hd hown
  have hidl : id < l.length := (List.getElem?_eq_some_iff.1 ho).1
  have hal : alive l id = true := alive_iff.2 ⟨_, ho, hd⟩
  refine ⟨hrel.below.trans ⟨hos, htape, hout, hsize, fun k hk => hoth k (by omega), fun _ => hdr⟩, ⟨fun b' q u hc => ?_, fun b' es hc => ?_, fun b' hdf => (hoth b' (fun e => by subst e; exact (hrel.obj id a ho).ndf hrel.sat hd hown hdf)).trans (hrel.sat.df b' hdf), hrel.sat.glob⟩, hrel.ext, fun j q hj => ?_, fun i j b' hij hi hj hbi hbj => ?_⟩
  · have hne : b' ≠ b := by rintro rfl; rw [hno.1] at hc; cases hc
    exact (World.cell?_of_block (w := w) (a := ⟨b', q, none⟩) (hoth b' hne)).trans (hrel.sat.cell b' q u hc)
  · have hne : b' ≠ b := by rintro rfl; rw [hno.2] at hc; cases hc
    have hh := hrel.sat.mp b' es hc
    exact MapAt.to (hoth b' hne) hh
  · by_cases hji : j = id
    · subst hji
      rw [List.getElem?_set, if_pos rfl, if_pos hidl] at hj
      injection hj with hj; subst hj; exact hok
    · rw [List.getElem?_set, if_neg (Ne.symm hji)] at hj
      by_cases hdd : q = .dead
      · subst hdd; trivial
      · refine (hrel.obj j q hj).keep hle (fun b' hb' => hoth b' ?_) (fun _ _ => ⟨rfl, rfl⟩)
        rintro rfl
        exact hrel.sep j id b' hji (alive_iff.2 ⟨q, hj, hdd⟩) hal hb' hown
  · refine hrel.sep i j b' hij ?_ ?_ hbi hbj
    · unfold alive at hi ⊢; rwa [isVar_set ho hv.symm, isRow_set ho hrw.symm] at hi
    · unfold alive at hj ⊢; rwa [isVar_set ho hv.symm, isRow_set ho hrw.symm] at hj
theorem findNow_key {kk : IntKind} {n : Int} : ∀ (es : List MapEntry) (ks : List D) (i : Nat), es.length = ks.length → (∀ (j : Nat) (e : MapEntry) (d : D), es[j]? = some e → ks[j]? = some d → Rd I e.key d) → keysInt kk ks = true →
    (keyIdx n ks i = none ∧ Instr.findNow (.int kk) (.int kk n) es i = some none ∧ ∀ e ∈ es, e.key ≠ .int kk n) ∨ ∃ j e, keyIdx n ks i = some (i + j) ∧ es[j]? = some e ∧ e.key = .int kk n ∧ ks[j]? = some (.int kk n) ∧ Instr.findNow (.int kk) (.int kk n) es i = some (some (i + j, e.val))
  | [], [], i, _, _, _ => .inl ⟨rfl, rfl, by simp⟩
  | e :: es, d :: ks, i, hl, hr, hk => by
    simp only [keysInt, List.all_cons, Bool.and_eq_true] at hk
    obtain ⟨hk1, hk2⟩ := hk
    have h0 := hr 0 e d rfl rfl
    split at hk1
    · rename_i k' a
      have hk' : k' = kk := by simpa using hk1
      subst hk'
      have hkey : e.key = .int k' a := by generalize e.key = z at h0; cases h0; rfl
      by_cases hna : n = a
      · subst hna
        refine .inr ⟨0, e, by simp [keyIdx], rfl, hkey, rfl, ?_⟩
        simp [Instr.findNow, Instr.sameNow, hkey]
      · rcases findNow_key (kk := k') (n := n) es ks (i + 1) (by simpa using hl) (fun j e d h1 h2 => hr (j + 1) e d (by simpa using h1) (by simpa using h2)) hk2 with ⟨h1, h2, h6⟩ | ⟨j, e', h1, h2, h3, h4, h5⟩
        · exact .inl ⟨by simp [keyIdx, hna, h1], by simp only [Instr.findNow, Instr.sameNow, hkey, if_true, beq_eq_false_iff_ne.2 hna, h2], fun x hx => by
            rcases List.mem_cons.1 hx with rfl | hx
            · rw [hkey]; intro he; injection he with _ he; exact hna he.symm
            · exact h6 x hx⟩
        · refine .inr ⟨j + 1, e', by simp only [keyIdx, if_neg hna, h1]; congr 1; omega, by simpa using h2, h3, by simpa using h4, ?_⟩
          simp only [Instr.findNow, Instr.sameNow, hkey, if_true, beq_eq_false_iff_ne.2 hna, h5]
          congr 3; omega
    · cases hk1
theorem mapTy_ok (hE : TOk P V.E) {t : TypeId} {kk : IntKind} {i : TI} (h : mapTy V.E t = some (kk, i)) : ∃ kt e, P.underlying t = some (.map kt e) ∧ P.underlying kt = some (.int kk) ∧ V.E e = some i := by
  unfold mapTy at h
  split at h
  · rename_i kt e ht
    split at h
    · rename_i kk' i' h1 h2
      injection h with h; injection h with e1 e2; subst e1; subst e2
      obtain ⟨x, z', _, _, _, _, _, _, h7, _⟩ := tiOk_parts (hE t _ ht)
      obtain ⟨x', z'', _, _, _, _, _, _, h7', _⟩ := tiOk_parts (hE kt _ h1)
      refine ⟨kt, e, ?_, ?_, h2⟩
      · simp only [descOk] at h7
        split at h7
        · rename_i k' e' he; simp at h7; obtain ⟨rfl, rfl⟩ := h7; exact he
        · cases h7
      · simp only [descOk] at h7'
        split at h7'
        · rename_i k' he; simp at h7'; subst h7'; exact he
        · cases h7'
    · cases h
  · cases h
theorem intOfT_ok {t : T} {k : IntKind} {n : Int} {v : Value} (h : intOfT t = some (k, n)) (hr : RdT I m L v t) : v = .int k n := by
  unfold intOfT at h
  split at h
  · injection h with h; injection h with h1 h2; subst h1; subst h2
    have := rdD hr; cases this; rfl
  · cases h
theorem elAt_get {ds : List D} {j : Nat} {d : D} (h : ds[j]? = some d) : elAt ds j = d := by simp [elAt, h]
theorem zero_rd {z : Value} {i : TI} (h1 : zerosOk z.cells.toList i.zero = true) (h2 : isAggV z = i.desc.agg) : Rd I z (mkD i.desc.agg i.zero) := by
  obtain ⟨q1, q2, q3⟩ := zerosOk_rd I _ _ h1
  unfold mkD
  cases z with
  | agg cs =>
    rw [← h2]
    simp only [isAggV, if_true]
    exact .agg _ _ (by simpa [Value.cells] using q1) q2 (fun i v d hv hd => q3 i v d (by simpa [Value.cells] using hv) hd)
  | _ =>
    rw [← h2]
    simp only [isAggV, Bool.false_eq_true, if_false]
    match hz : i.zero, q1 with
    | [d], _ => exact q3 0 _ d (by simp [Value.cells]) (by simp [hz])
    | [], q1 => simp [Value.cells] at q1
    | _ :: _ :: _, q1 => simp [Value.cells] at q1
theorem look_ok (hE : TOk P V.E) (hrel : WRel w0 I0 w I m L) (hc : Com l L) {t : TypeId} {x k : Value} {tx tk : T} {ok : Bool} (hx : RdT I m L x tx) (hk : RdT I m L k tk) (hob : (lookT V.E t l tx tk ok).ob) :
    (lookT V.E t l tx tk ok).eff = .none ∧ ∃ u, (Instr.lookup t x k ok).run P w = .ok u w ∧ RdT I m L u (lookT V.E t l tx tk ok).t := by
  unfold lookT at hob ⊢
  split at hob
  · rename_i kk i ks vs kk' n h1 h2 h3
    have := intOfT_ok h3 hk; subst this
    obtain ⟨kt, e, u1, u2, u3⟩ := mapTy_ok hE h1
    obtain ⟨es, s1, s2, r1, r2, r3⟩ := mapOf_ok hrel hc hx h2
    obtain ⟨z, z1, z2, z3, z4⟩ := run_zero_ti hE u3 w
    split at hob
    · rename_i hkk; subst hkk
      simp only [if_true]
      have hck : ∀ e : Bool, (Instr.checkKey e 10000 kt (.int kk n)).run P w = .ok () w := fun e => MapKept.run_checkKey (d := .int kk) (n := 9999) u2 (by simp [MapKept.IsKey]) e
      have hrun : ∀ r, Instr.findNow (.int kk) (.int kk n) es.toList 0 = some r → (Instr.lookup t x (.int kk n) ok).run P w = .ok (if ok then .tuple #[match r with | some (_, v) => v | none => z, .bool r.isSome] else match r with | some (_, v) => v | none => z) w := by
        intro r hr
        have hf := MapKept.run_findKey (w := w) u2 hr
        unfold Instr.lookup
        rcases r3 with ⟨rfl, rfl⟩ | ⟨b, clk, rfl, hh⟩
        · simp only [Sem.run_bind, run_underlying u1, Result.andThen_ok, Sem.run_pure, hck, hf]
          cases r <;> simp [z1] <;> split <;> simp
        · simp only [Sem.run_bind, run_underlying u1, Result.andThen_ok, Sem.run_pure, MapKept.run_getObj_map hh, hck, hf]
          cases r <;> simp [z1] <;> split <;> simp
      rcases findNow_key (kk := kk) (n := n) es.toList ks 0 (by simpa using s1) (fun j e d q1 q2 => r1 j e d (by simpa using q1) q2) (by split at hob <;> exact hob) with ⟨q1, q2, _⟩ | ⟨j, e', q1, q2, q3, q4, q5⟩
      · simp only [q1]
        refine ⟨by trivial, _, hrun _ q2, ?_⟩
        have hz := zero_rd (I := I) z2 z3
        cases ok
        · exact .d _ _ hz
        · exact .d _ _ (.tup _ _ rfl fun i v d hv hd => by
            rcases i with _ | _ | i
            · simp at hv hd; subst hv; subst hd; exact hz
            · simp at hv hd; subst hv; subst hd; exact .bool _
            · simp at hv)
      · simp only [q1, Nat.zero_add]
        refine ⟨by trivial, _, hrun _ q5, ?_⟩
        have hj : j < vs.length := by rw [← s2]; have := (List.getElem?_eq_some_iff.1 q2).1; simpa using this
        have hv := r2 j e' _ (by simpa using q2) (List.getElem?_eq_getElem hj)
        rw [elAt_get (List.getElem?_eq_getElem hj)]
        cases ok
        · exact .d _ _ hv
        · exact .d _ _ (.tup _ _ rfl fun i v d hv' hd => by
            rcases i with _ | _ | i
            · simp at hv' hd; subst hv'; subst hd; exact hv
            · simp at hv' hd; subst hv'; subst hd; exact .bool _
            · simp at hv')
    · exact hob.elim
  · exact hob.elim
theorem stays (kk : IntKind) (n : Int) (w : World) : (Instr.keyThatStays (.int kk n) (.int kk n)).run P w = .ok (.int kk n) w := by
  unfold Instr.keyThatStays
  have : Instr.sameBits 10000 (.int kk n) (.int kk n) = true := by simp [Instr.sameBits]
  rw [this]; rfl
theorem put_ok (hE : TOk P V.E) (hrel : WRel w0 I0 w I m l) {t : TypeId} {x k v : Value} {tx tk tv : T} (hx : RdT I m l x tx) (hk : RdT I m l k tk) (hv : RdT I m l v tv) (hob : (mapPutT V.E t l tx tk tv).ob) :
    ∃ l' w', (mapPutT V.E t l tx tk tv).eff = .upd l' ∧ (Instr.mapUpdate t x k v).run P w = .ok () w' ∧ Le I m l I m l' ∧ WRel w0 I0 w' I m l' := by
  unfold mapPutT at hob ⊢
  split at hob
  · rename_i kk i id kk' n d h1 h3 h4
    have := intOfT_ok h3 hk; subst this
    have hd := rd_unD1 hv h4
    obtain ⟨kt, e, u1, u2, u3⟩ := mapTy_ok hE h1
    split at hob
    · rename_i hkk; subst hkk
      simp only [if_true]
      split at hob
      · rename_i ks vs hl
        obtain ⟨b, ⟨es, clk⟩, q1, q2, q3, s1, s2, r1, r2, hno⟩ := hrel.obj id _ hl
        replace q3 : w.heap[b]? = some (.map es clk) ∧ MapKept.Stamped es clk := q3
        simp only at s1 s2 r1 r2
        have hxv : x = .map (some b) := by
          cases hx with
          | map r _ p1 p2 =>
            have := p2 (by unfold isRow; rw [hl]; rfl)
            rw [q1] at this; exact this.symm
        subst hxv
        have hck : ∀ e : Bool, (Instr.checkKey e 10000 kt (.int kk n)).run P w = .ok () w := fun e => MapKept.run_checkKey (d := .int kk) (n := 9999) u2 (by simp [MapKept.IsKey]) e
        have hown : own (m id) = some b := by rw [q1]; rfl
        rcases findNow_key (kk := kk) (n := n) es.toList ks 0 (by simpa using s1) (fun j e d q1 q2 => r1 j e d (by simpa using q1) q2) hob with ⟨p1, p2, p6⟩ | ⟨j, e', p1, p2, p3, p4, p5⟩
        · simp only [p1]
          have hf := MapKept.run_findKey (w := w) u2 p2
          have hset := MapKept.run_setObj_map (P := P) (.map (es.push { key := .int kk n, val := v, born := clk }) (clk + 1)) q3.1
          obtain ⟨g1, g2⟩ := MapKept.heap_set (o' := .map (es.push { key := .int kk n, val := v, born := clk }) (clk + 1)) q3.1
          refine ⟨_, { w with heap := w.heap.setIfInBounds b (.map (es.push { key := .int kk n, val := v, born := clk }) (clk + 1)) }, rfl, ?_, ?_, ?_⟩
          · unfold Instr.mapUpdate
            simp only [Sem.run_bind, run_underlying u1, Result.andThen_ok, MapKept.run_getObj_map q3.1, hck, hf, hset]
          · exact Le.setKind hl rfl rfl (by simp)
          · refine hrel.turnB hl (by simp) hown hno rfl rfl (Le.setKind hl rfl rfl (by simp)) rfl rfl rfl (Nat.le_refl _) (by simp) (fun k hk => g2 k hk) ?_
            refine ⟨b, (es.push { key := .int kk n, val := v, born := clk }, clk + 1), q1, q2, ⟨g1, MapKept.stamped_push q3.2 (by simpa using p6)⟩, by simp [s1], by simp [s2], fun i e d he hd' => ?_, fun i e d' he hd' => ?_, hno⟩
            · rw [Array.getElem?_push] at he
              split at he
              · injection he with he; subst he
                rename_i hi; subst hi
                rw [s1, List.getElem?_append_right (Nat.le_refl _)] at hd'; simp at hd'; subst hd'; exact .int _ _
              · have hi : i < ks.length := by have := (Array.getElem?_eq_some_iff.1 he).1; omega
                rw [List.getElem?_append_left hi] at hd'; exact r1 i e d he hd'
            · rw [Array.getElem?_push] at he
              split at he
              · injection he with he; subst he
                rename_i hi; subst hi
                rw [s2, List.getElem?_append_right (Nat.le_refl _)] at hd'; simp at hd'; subst hd'; exact hd
              · have hi : i < vs.length := by have := (Array.getElem?_eq_some_iff.1 he).1; omega
                rw [List.getElem?_append_left hi] at hd'; exact r2 i e d' he hd'
        · simp only [p1, Nat.zero_add]
          rw [Nat.zero_add] at p5
          have hf := MapKept.run_findKey (w := w) u2 p5
          have hej : es[j]? = some e' := by simpa using p2
          have hset := MapKept.run_setObj_map (P := P) (.map (es.modify j fun e => { e with key := .int kk n, val := v }) clk) q3.1
          obtain ⟨g1, g2⟩ := MapKept.heap_set (o' := .map (es.modify j fun e => { e with key := .int kk n, val := v }) clk) q3.1
          refine ⟨_, { w with heap := w.heap.setIfInBounds b (.map (es.modify j fun e => { e with key := .int kk n, val := v }) clk) }, rfl, ?_, Le.setKind hl rfl rfl (by simp), ?_⟩
          · unfold Instr.mapUpdate
            simp only [Sem.run_bind, run_underlying u1, Result.andThen_ok, MapKept.run_getObj_map q3.1, hck, hf, hej, Option.map_some, Option.getD_some, p3, stays, hset]
          · refine hrel.turnB hl (by simp) hown hno rfl rfl (Le.setKind hl rfl rfl (by simp)) rfl rfl rfl (Nat.le_refl _) (by simp) (fun k hk => g2 k hk) ?_
            refine ⟨b, (es.modify j fun e => { e with key := .int kk n, val := v }, clk), q1, q2, ⟨g1, MapKept.stamped_modify q3.2 j _ (fun _ _ => rfl) (fun x hx hj => by rw [hej] at hj; injection hj with hj; subst hj; exact p3.symm)⟩, by simp [s1], by simp [s2], fun i e d he hd' => ?_, fun i e d' he hd' => ?_, hno⟩
            · rw [Array.getElem?_modify] at he
              split at he
              · rename_i hi; subst hi
                rw [hej] at he; simp at he; subst he
                rw [p4] at hd'; injection hd' with hd'; subst hd'; exact .int _ _
              · exact r1 i e d he hd'
            · rw [Array.getElem?_modify] at he
              split at he
              · rename_i hi; subst hi
                rw [hej] at he; simp at he; subst he
                have hj : j < vs.length := by rw [← s2]; exact (Array.getElem?_eq_some_iff.1 hej).1
                rw [List.getElem?_set, if_pos rfl, if_pos hj] at hd'
                injection hd' with hd'; subst hd'; exact hd
              · rename_i hne
                rw [List.getElem?_set, if_neg hne] at hd'; exact r2 i e d' he hd'
      · exact hob.elim
    · exact hob.elim
  · exact hob.elim
theorem del_ok (hE : TOk P V.E) (hrel : WRel w0 I0 w I m l) {t t2 ty : TypeId} {x k : Value} {tx tk : T} (hx : RdT I m l x tx) (hk : RdT I m l k tk) (hob : (mapDelT V.E t l tx tk).ob) :
    (mapDelT V.E t l tx tk).t = .d (.tup []) ∧ ∃ l' w', (mapDelT V.E t l tx tk).eff = .upd l' ∧ (Builtin.delete_ #[t, t2] ty #[x, k]).run P w = .ok (.tuple #[]) w' ∧ Le I m l I m l' ∧ WRel w0 I0 w' I m l' := by
  unfold mapDelT at hob ⊢
  split at hob
  · rename_i kk i id kk' n h1 h3
    have := intOfT_ok h3 hk; subst this
    obtain ⟨kt, e, u1, u2, u3⟩ := mapTy_ok hE h1
    split at hob
    · rename_i hkk; subst hkk
      simp only [if_true]
      split at hob
      · rename_i ks vs hl
        refine ⟨rfl, ?_⟩
        obtain ⟨b, ⟨es, clk⟩, q1, q2, q3, s1, s2, r1, r2, hno⟩ := hrel.obj id _ hl
        replace q3 : w.heap[b]? = some (.map es clk) ∧ MapKept.Stamped es clk := q3
        simp only at s1 s2 r1 r2
        have hxv : x = .map (some b) := by
          cases hx with
          | map r _ p1 p2 =>
            have := p2 (by unfold isRow; rw [hl]; rfl)
            rw [q1] at this; exact this.symm
        subst hxv
        have hck : ∀ e : Bool, (Instr.checkKey e 10000 kt (.int kk n)).run P w = .ok () w := fun e => MapKept.run_checkKey (d := .int kk) (n := 9999) u2 (by simp [MapKept.IsKey]) e
        have hown : own (m id) = some b := by rw [q1]; rfl
        rcases findNow_key (kk := kk) (n := n) es.toList ks 0 (by simpa using s1) (fun j e d q1 q2 => r1 j e d (by simpa using q1) q2) hob with ⟨p1, p2, p6⟩ | ⟨j, e', p1, p2, p3, p4, p5⟩
        · simp only [p1]
          have hf := MapKept.run_findKey (w := w) u2 p2
          have hset := MapKept.run_setObj_map (P := P) (.map es clk) q3.1
          obtain ⟨g1, g2⟩ := MapKept.heap_set (o' := .map es clk) q3.1
          refine ⟨_, { w with heap := w.heap.setIfInBounds b (.map es clk) }, rfl, ?_, Le.setKind hl rfl rfl (by simp), ?_⟩
          · unfold Builtin.delete_
            simp [run_underlying u1, MapKept.run_getObj_map q3.1, hck, hf, hset]
          · refine hrel.turnB hl (by simp) hown hno rfl rfl (Le.setKind hl rfl rfl (by simp)) rfl rfl rfl (Nat.le_refl _) (by simp) (fun k hk => g2 k hk) ?_
            exact ⟨b, (es, clk), q1, q2, ⟨g1, q3.2⟩, s1, s2, r1, r2, hno⟩
        · simp only [p1, Nat.zero_add]
          rw [Nat.zero_add] at p5
          have hf := MapKept.run_findKey (w := w) u2 p5
          have hej : es[j]? = some e' := by simpa using p2
          have hjl : j < es.size := (Array.getElem?_eq_some_iff.1 hej).1
          have hset := MapKept.run_setObj_map (P := P) (.map (es.eraseIdxIfInBounds j) clk) q3.1
          obtain ⟨g1, g2⟩ := MapKept.heap_set (o' := .map (es.eraseIdxIfInBounds j) clk) q3.1
          have her : (es.eraseIdxIfInBounds j).toList = es.toList.eraseIdx j := by
            unfold Array.eraseIdxIfInBounds; rw [dif_pos hjl]; simp
          have hsz : (es.eraseIdxIfInBounds j).size = es.size - 1 := by
            have h := congrArg List.length her
            rw [Array.length_toList, List.length_eraseIdx, if_pos (by simpa using hjl), Array.length_toList] at h; exact h
          have hget : ∀ (i : Nat), (es.eraseIdxIfInBounds j)[i]? = es[if i < j then i else i + 1]? := fun i => by
            have : (es.eraseIdxIfInBounds j)[i]? = (es.eraseIdxIfInBounds j).toList[i]? := Array.getElem?_toList.symm
            rw [this, her, List.getElem?_eraseIdx]; split <;> simp
          refine ⟨_, { w with heap := w.heap.setIfInBounds b (.map (es.eraseIdxIfInBounds j) clk) }, rfl, ?_, Le.setKind hl rfl rfl (by simp), ?_⟩
          · unfold Builtin.delete_
            simp [run_underlying u1, MapKept.run_getObj_map q3.1, hck, hf, hset]
          · refine hrel.turnB hl (by simp) hown hno rfl rfl (Le.setKind hl rfl rfl (by simp)) rfl rfl rfl (Nat.le_refl _) (by simp) (fun k hk => g2 k hk) ?_
            refine ⟨b, (es.eraseIdxIfInBounds j, clk), q1, q2, ⟨g1, MapKept.stamped_erase q3.2 j⟩, by rw [hsz, List.length_eraseIdx, if_pos (by omega)]; omega, by rw [hsz, List.length_eraseIdx, if_pos (by omega)]; omega, fun i e d he hd' => ?_, fun i e d' he hd' => ?_, hno⟩
            · rw [hget] at he; rw [List.getElem?_eraseIdx] at hd'
              split at he
              · rename_i h; rw [if_pos h] at hd'; exact r1 _ e d he hd'
              · rename_i h; rw [if_neg h] at hd'; exact r1 _ e d he hd'
            · rw [hget] at he; rw [List.getElem?_eraseIdx] at hd'
              split at he
              · rename_i h; rw [if_pos h] at hd'; exact r2 _ e d' he hd'
              · rename_i h; rw [if_neg h] at hd'; exact r2 _ e d' he hd'
      · exact hob.elim
    · exact hob.elim
  · exact hob.elim
theorem indexS_ok (hE : TOk P V.E) {t : TypeId} {x i : Value} {tx ti : T} (hx : RdT I m L x tx) (hi : RdT I m L i ti) (hob : (indexS V.E t tx ti).ob) :
    (indexS V.E t tx ti).eff = .none ∧ ∃ u, (Instr.index t x i).run P w = .ok u w ∧ RdT I m L u (indexS V.E t tx ti).t := by
  unfold indexS at hob ⊢
  split at hob
  · rename_i s k n hs h3
    have := intOfT_ok h3 hi; subst this
    have hu := underlying_string hE hs
    have := rdD hx; cases this
    have hn : n.toNat < s.size := by have := hob.2; omega
    have hget : s[n.toNat]? = some s[n.toNat] := by rw [getElem?_pos s n.toNat hn]
    refine ⟨rfl, .int .u8 (byteAt s n.toNat), ?_, .d _ _ (.int _ _)⟩
    unfold Instr.index byteAt
    simp [asIntOf, run_underlying hu, hob.1, hget]
  · exact hob.elim
theorem WRel.knownC (hrel : WRel w0 I0 w I m L) (e : TypeId) (cs : Array Value) (size : Nat) (ds : List D) (n c : Nat) (hn : ds.length = n) (hs : ∀ d ∈ ds, d.cells.length = size ∧ ∀ x ∈ d.cells, x.one = true) (hnc : n ≤ c) (hlen : n * size ≤ cs.size) (hmax : c ≤ maxLen)
    (hrd : ∀ (j : Nat) x y, cs[j]? = some x → (flat ds)[j]? = some y → Rd I x y) :
    ∃ J, Le I m L J m L ∧ WRel w0 I0 (w.alloc (.cells cs e)) J m L ∧ Rd J (.slice (some ⟨w.heap.size, 0, none⟩) n c) (.slice size ds) := by
  have hno := hrel.sat.noB (Nat.le_refl w.heap.size)
  let J := I.withCells w.heap.size cs.toList
  have hle : I.le J := ⟨fun b o v hc => by
    have hb : b ≠ w.heap.size := by rintro rfl; rw [hno.1 o] at hc; cases hc
    simp [J, Imm.withCells, hb, hc], fun _ _ h => h, fun _ h => h⟩
  have hout : ∀ b, b ≠ w.heap.size → J.cell b = I.cell b := fun b hb => by funext o; simp [J, Imm.withCells, hb]
  have hsat : SatI (w.alloc (.cells cs e)) J := ⟨fun b o v hc => by
    by_cases hb : b = w.heap.size
    · subst hb
      simp only [J, Imm.withCells, if_true] at hc
      rw [World.cell?_alloc_new]
      cases hx : cs[o]? with
      | none => simp [hx, hno.1 o] at hc
      | some x => simpa [hx] using hc
    · rw [hout b hb] at hc
      rw [World.cell?_alloc_lt w _ _ (hrel.sat.lt hc)]; exact hrel.sat.cell b o v hc, fun b es hc => by
    have hh := hrel.sat.mp b es hc
    exact MapAt.to (Below.heap_alloc w _ b (hrel.sat.ltm hc)) hh, fun b hd => (Below.heap_alloc w _ b (hrel.sat.ltd hd)).trans (hrel.sat.df b hd), fun g d h => (hrel.sat.glob g d h).mono hle⟩
  obtain ⟨r1, r2⟩ := hrel.call (Bel.alloc (Bel.refl _ _) (Nat.le_refl _) _) (.of hle (fun b hb => hout b (by omega)) (fun _ _ => rfl)) hsat
  refine ⟨J, r2, r1, .slice _ 0 n c size ds (fun k => (cs[k]?).getD undef) hn hnc hmax hs (fun k hk => ?_) (fun k x hx => ?_)⟩
  · have : cs[k]? = some (cs[k]'(by omega)) := Array.getElem?_eq_getElem (by omega)
    simp [J, Imm.withCells, this]
  · have hk : k < n * size := by rw [← hn, ← flat_len ds (fun d hd => (hs d hd).1)]; exact (List.getElem?_eq_some_iff.1 hx).1
    have : cs[k]? = some (cs[k]'(by omega)) := Array.getElem?_eq_getElem (by omega)
    rw [this]; exact (hrd k _ x this hx).mono hle
theorem WRel.drew (h : WRel w0 I0 w I m L) : WRel w0 I0 w.drew I m L := ⟨h.below.drew, ⟨h.sat.cell, h.sat.mp, h.sat.df, h.sat.glob⟩, h.ext, fun id o ho => (h.obj id o ho).keep (Le.refl I m L) (fun _ _ => rfl) (fun _ _ => ⟨rfl, rfl⟩), h.sep⟩
theorem flat_ints : ∀ (ds : List D), (∀ d ∈ ds, ∃ n, d = .int .i32 n) → flat ds = ds
  | [], _ => rfl
  | d :: ds, h => by
    obtain ⟨n, rfl⟩ := h d (by simp)
    have ih := flat_ints ds (fun x hx => h x (by simp [hx]))
    unfold flat at ih ⊢
    rw [List.flatMap_cons, ih]; rfl
theorem conv_ok (hE : TOk P V.E) (hrel : WRel w0 I0 w I m L) {src t : TypeId} {x : Value} {tx : T} (hx : RdT I m L x tx) (hob : (convT V.E src t tx).ob) :
    (convT V.E src t tx).eff = .none ∧ ∃ u w' J, (convert src t x).run P w = .ok u w' ∧ Le I m L J m L ∧ WRel w0 I0 w' J m L ∧ RdT J m L u (convT V.E src t tx).t := by
  have intk : ∀ {t : TypeId} {s b : Nat} {z : List D} {k : IntKind}, V.E t = some ⟨s, b, z, .intk k⟩ → P.underlying t = some (.int k) := by
    intro t s b z k hs
    obtain ⟨x, z', _, _, _, _, _, _, h7, _⟩ := tiOk_parts (hE t _ hs)
    simp only [descOk] at h7
    split at h7
    · rename_i k' he; simp at h7; subst h7; exact he
    · cases h7
  unfold convT at hob ⊢
  split at hob
  · rename_i k0 k k' n hs0 hs
    have hu := intk hs
    have hds := intk hs0
    have := rdD hx; cases this
    refine ⟨rfl, .int k (k.wrap n), w, I, ?_, .refl .., hrel, .d _ _ (.int _ _)⟩
    unfold convert
    simp [run_underlying hds, run_underlying hu, Conv.intToInt]
  · rename_i e s hs0 hs
    split at hob
    · rename_i he
      have hu := underlying_slice hE hs
      have hue := intk he
      have := rdD hx; cases this
      have hsz : (Conv.runesFrom s s.size 0 #[]).size ≤ 16777216 := by
        have := size_runesFrom s s.size 0 #[]; simp at this; have h2 : s.size ≤ 16777216 := hob; omega
      have hrun := run_runes_of_string (P := P) w src t e s (underlying_string hE hs0) hu hue (by omega)
      have hint := runes_int s s.size 0 #[] (by simp)
      generalize hr : Conv.runesFrom s s.size 0 #[] = rs at *
      have hD : runesD s = rs.toList.map runeD := by unfold runesD; rw [hr]
      have hds : ∀ d ∈ runesD s, ∃ n, d = .int .i32 n := by
        rw [hD]; intro d hd
        obtain ⟨v, hv, rfl⟩ := List.mem_map.1 hd
        obtain ⟨n, rfl⟩ := hint v hv
        exact ⟨n, rfl⟩
      obtain ⟨J, q1, q2, q3⟩ := (hrel.drew).knownC e (rs ++ Array.replicate (grownCap w rs.size 0 e - rs.size) (.int .i32 0)) 1 (runesD s) rs.size (grownCap w rs.size 0 e) (by simp [hD]) (fun d hd => by obtain ⟨n, rfl⟩ := hds d hd; simp [D.cells, D.one]) (grownCap_ge w rs.size 0 e) (by simp)
        (by have h0 : grownCap w rs.size 0 e = rs.size + w.tape w.drawn (.appendCap rs.size 0 e) % (2 ^ 63 - rs.size) := rfl
            have : w.tape w.drawn (Question.appendCap rs.size 0 e) % (2 ^ 63 - rs.size) < 2 ^ 63 - rs.size := Nat.mod_lt _ (by omega)
            rw [h0]; unfold maxLen; omega)
        (fun j x y hx hy => by
          rw [flat_ints _ hds, hD] at hy
          rw [List.getElem?_map] at hy
          have hj : j < rs.size := by
            cases hq : rs.toList[j]? with
            | none => rw [hq] at hy; simp at hy
            | some z => have := (List.getElem?_eq_some_iff.1 hq).1; simpa using this
          rw [Array.getElem?_append_left hj] at hx
          have hx' : rs.toList[j]? = some x := by simpa using hx
          rw [hx'] at hy; simp at hy; subst hy
          obtain ⟨n, rfl⟩ := hint x (List.mem_of_getElem? hx')
          exact .int _ _)
      exact ⟨rfl, _, _, J, hrun, q1, q2, .d _ _ q3⟩
    · exact hob.elim
  · exact hob.elim
theorem WRel.pushA {ob : AO} (hrel : WRel w0 I0 w I m l) {w' : World} {v : Value} {b0 : Nat} (hown : own v = some b0) (hb0 : w.heap.size ≤ b0)
    (hg : w.grownBy w' none) (hdr : w.drawn ≤ w'.drawn) (hoe : ∀ e s els, ob ≠ .row e s els ∧ ob ≠ .frow e s els) (hok : ObjOk w0.heap.size w' I (upd m l.length v) (l ++ [ob]) v ob) :
    Le I m l I (upd m l.length v) (l ++ [ob]) ∧ WRel w0 I0 w' I (upd m l.length v) (l ++ [ob]) := by
  have hget : ∀ k, k < l.length → (l ++ [ob])[k]? = l[k]? := fun k hk => List.getElem?_append_left (by omega)
  have hlast : (l ++ [ob])[l.length]? = some ob := by simp
  have hle : Le I m l I (upd m l.length v) (l ++ [ob]) := by
    refine ⟨.refl I, by simp, fun id hid hv => ⟨?_, upd_ne m v (by omega)⟩, fun id hid hr => ⟨?_, upd_ne m v (by omega)⟩, fun id e' s' els' hid hh => ⟨els', ?_⟩⟩
    · unfold isVar at hv ⊢; rw [hget id hid]; exact hv
    · unfold isRow at hr ⊢; rw [hget id hid] at hr; exact hr
    · rw [hget id hid] at hh; exact hh
  have hold : ∀ k, alive l k = true → ∀ b, own (m k) = some b → b < w.heap.size := by
    intro k hk b hb
    obtain ⟨o, ho, hd⟩ := alive_iff.1 hk
    exact ((hrel.obj k o ho).lt hd hb).1
  refine ⟨hle, ⟨hrel.below.trans ⟨hg.os, hg.tape, hg.output, hg.size, fun k hk => hg.block k (by have := hrel.below.size; omega) (by simp), fun _ => hdr⟩, ⟨fun b o u hc => ?_, fun b es hc => ?_, fun b hd => (hg.block b (hrel.sat.ltd hd) (by simp)).trans (hrel.sat.df b hd), hrel.sat.glob⟩, hrel.ext, fun id o ho => ?_, fun i j b hij hi hj hbi hbj => ?_⟩⟩
  · exact (World.cell?_of_block (w := w) (a := ⟨b, o, none⟩) (hg.block b (hrel.sat.lt hc) (by simp))).trans (hrel.sat.cell b o u hc)
  · have hh := hrel.sat.mp b es hc
    exact MapAt.to (hg.block b (hrel.sat.ltm hc) (by simp)) hh
  · by_cases hid : id < l.length
    · rw [hget id hid] at ho; rw [upd_ne m v (by omega)]
      by_cases hd : o = .dead
      · subst hd; trivial
      · exact (hrel.obj id o ho).keep hle (fun b hb => hg.block b ((hrel.obj id o ho).lt hd hb).1 (by simp)) (fun _ _ => ⟨rfl, rfl⟩)
    · have : id = l.length := by
        have := (List.getElem?_eq_some_iff.1 ho).1; simp at this; omega
      subst this
      rw [hlast] at ho; injection ho with ho; subst ho
      rw [upd_same]
      exact hok
  · have hal : ∀ k, k ≠ l.length → alive (l ++ [ob]) k = true → alive l k = true := by
      intro k hk ha
      obtain ⟨o, ho, hd⟩ := alive_iff.1 ha
      have hkl : k < l.length := by have := (List.getElem?_eq_some_iff.1 ho).1; simp at this; omega
      rw [hget k hkl] at ho
      exact alive_iff.2 ⟨o, ho, hd⟩
    by_cases h1 : i = l.length
    · subst h1; rw [upd_same] at hbi; rw [upd_ne m v (Ne.symm hij)] at hbj
      rw [hown] at hbi; injection hbi with hbi
      have := hold j (hal j (Ne.symm hij) hj) b hbj; omega
    · by_cases h2 : j = l.length
      · subst h2; rw [upd_same] at hbj; rw [upd_ne m v hij] at hbi
        rw [hown] at hbj; injection hbj with hbj
        have := hold i (hal i hij hi) b hbi; omega
      · rw [upd_ne m v h1] at hbi; rw [upd_ne m v h2] at hbj
        exact hrel.sep i j b hij (hal i h1 hi) (hal j h2 hj) hbi hbj
theorem WRel.pushM (hrel : WRel w0 I0 w I m l) {w' : World} {v : Value} {b0 : Nat} (hown : own v = some b0) (hb0 : w.heap.size ≤ b0)
    (hg : w.grownBy w' none) (hdr : w.drawn ≤ w'.drawn) (hok : ObjOk w0.heap.size w' I m l v (.map [] [])) :
    Le I m l I (upd m l.length v) (l ++ [.map [] []]) ∧ WRel w0 I0 w' I (upd m l.length v) (l ++ [.map [] []]) := hrel.pushA hown hb0 hg hdr (by simp) hok
theorem bornAt_get {es : ME} {i : Nat} {e : MapEntry} (h : es.1[i]? = some e) : bornAt es i = e.born := by simp [bornAt, h]
theorem range_ok {tx : T} (hE : TOk P V.E) (hrel : WRel w0 I0 w I m L) {t : TypeId} {x : Operand} (ho : o.op = .range t x) (hx : RdT I m L (ρ x) tx) (hob : (rangeT V.E t l nid tx).ob) : RSound P w0 I0 o ρ w I m l L nid (rangeT V.E t l nid tx) := by
  unfold rangeT at hob ⊢
  split at hob
  · rename_i kt e id hs
    split at hob
    · rename_i ks vs l' hd
      try simp only [hd]
      rintro rfl rfl
      have hu : P.underlying t = some (.map kt e) := by
        obtain ⟨x, z', _, _, _, _, _, _, h7, _⟩ := tiOk_parts (hE t _ hs)
        simp only [descOk] at h7
        split at h7
        · rename_i k' e' he; simp at h7; obtain ⟨rfl, rfl⟩ := h7; exact he
        · cases h7
      have hv : ∃ b, ρ x = .map (some b) := by
        generalize hvx : ρ x = vx at hx
        cases hx with
        | map r _ p1 p2 =>
          simp only [toD, toD1] at hd
          split at hd
          · rename_i hl
            obtain ⟨b, es, q1, _⟩ := hrel.obj id _ hl
            have := p2 (by unfold isRow; rw [hl]; rfl)
            rw [q1] at this; injection this with this; exact ⟨b, by rw [← this]⟩
          · rename_i hl
            obtain ⟨b, es, q1, _⟩ := hrel.obj id _ hl
            have := p2 (by unfold isRow; rw [hl]; rfl)
            rw [q1] at this; injection this with this; exact ⟨b, by rw [← this]⟩
          · cases hd
      obtain ⟨b, hvb⟩ := hv
      obtain ⟨J, hle, hr1, hrd, hlen⟩ := toD_ok hrel hx hd
      rw [hvb] at hrd
      cases hrd with
      | map _ es _ _ q1 q2 q3 q4 q5 =>
        have hh := hr1.sat.mp b es q1
        have hrun := run_range_map (P := P) w t kt e b es.1 es.2 hu hh.1
        have hex : (execOp ρ o).run P w = .ok (.value (.pointer (some ⟨w.heap.size, 0, none⟩))) (w.alloc (.mapIter (some b) es.2 #[] es.2)) := by
          unfold execOp; simp [ho, hvb, hrun]
        simp only [hex, StepOk]
        obtain ⟨k1, k2⟩ := hr1.pushA (ob := .iter ks vs []) (w' := w.alloc (.mapIter (some b) es.2 #[] es.2)) (v := .pointer (some ⟨w.heap.size, 0, none⟩)) rfl (Nat.le_refl _) (World.grownBy_alloc w _ _) (Nat.le_refl _) (by simp)
          ⟨w.heap.size, some b, es, #[], rfl, hrel.below.size, heap_alloc_new w _, ⟨fun r hr => by injection hr with hr; subst hr; exact q1, fun h => by cases h⟩, q2, q3, q4, q5, ⟨rfl, by simp⟩, hr1.sat.noB (Nat.le_refl _)⟩
        refine ⟨J, _, hle.trans k1, k2, ?_⟩
        rw [← hlen]
        exact .ptr _ _ 0 (by unfold isVar; simp [AO.isVar]) (upd_same m _ _)
    · exact hob.elim
  · rename_i kt e ks vs hs
    rintro rfl rfl
    have hu : P.underlying t = some (.map kt e) := by
      obtain ⟨x, z', _, _, _, _, _, _, h7, _⟩ := tiOk_parts (hE t _ hs)
      simp only [descOk] at h7
      split at h7
      · rename_i k' e' he; simp at h7; obtain ⟨rfl, rfl⟩ := h7; exact he
      · cases h7
    have hd := rdD hx
    have fin : ∀ (mb : Option Nat) (es : ME), ((∀ r, mb = some r → I.mp r = some es) ∧ (mb = none → es.1 = #[])) → es.1.size = ks.length → es.1.size = vs.length → (∀ (i : Nat) (e : MapEntry) (d : D), es.1[i]? = some e → ks[i]? = some d → Rd I e.key d) → (∀ (i : Nat) (e : MapEntry) (d : D), es.1[i]? = some e → vs[i]? = some d → Rd I e.val d) →
        (execOp ρ o).run P w = .ok (.value (.pointer (some ⟨w.heap.size, 0, none⟩))) (w.alloc (.mapIter mb es.2 #[] es.2)) → StepOk P ((execOp ρ o).run P w) fun v w' => ∃ J m', Le I m L J m' (L ++ [.iter ks vs []]) ∧ WRel w0 I0 w' J m' (L ++ [.iter ks vs []]) ∧ RdT J m' (L ++ [.iter ks vs []]) v (.ptr L.length 0) := by
      intro mb es q1 q2 q3 q4 q5 hex
      simp only [hex, StepOk]
      obtain ⟨k1, k2⟩ := hrel.pushA (ob := .iter ks vs []) (w' := w.alloc (.mapIter mb es.2 #[] es.2)) (v := .pointer (some ⟨w.heap.size, 0, none⟩)) rfl (Nat.le_refl _) (World.grownBy_alloc w _ _) (Nat.le_refl _) (by simp)
        ⟨w.heap.size, mb, es, #[], rfl, hrel.below.size, heap_alloc_new w _, q1, q2, q3, q4, q5, ⟨rfl, by simp⟩, hrel.sat.noB (Nat.le_refl _)⟩
      exact ⟨I, _, k1, k2, .ptr _ _ 0 (by unfold isVar; simp [AO.isVar]) (upd_same m _ _)⟩
    generalize hvx : ρ x = vx at hd
    cases hd with
    | map0 => exact fin none (#[], 0) ⟨fun r hr => (by cases hr), fun _ => rfl⟩ rfl rfl (by simp) (by simp) (by unfold execOp; simp [ho, hvx, run_range_nilMap (P := P) w t kt e hu])
    | map b es _ _ q1 q2 q3 q4 q5 =>
      have hh := hrel.sat.mp b es q1
      have hrun := run_range_map (P := P) w t kt e b es.1 es.2 hu hh.1
      exact fin (some b) es ⟨fun r hr => by injection hr with hr; subst hr; exact q1, fun h => by cases h⟩ q2 q3 q4 q5 (by unfold execOp; simp [ho, hvx, hrun])
  · exact hob.elim
theorem entry_ok {tx : T} (hrel : WRel w0 I0 w I m L) (hc : Com l L) {x : Operand} (ho : o.op = .entry x) (hx : RdT I m L (ρ x) tx) (hob : (entryT l tx).ob) : RSound P w0 I0 o ρ w I m l L nid (entryT l tx) := by
  unfold entryT at hob ⊢
  split at hob
  · rename_i id
    split at hob
    · rename_i ks vs done hl
      split at hob
      · rename_i i hi
        split at hob
        · rename_i k v hk hv
          try simp only [hl, hi, hk, hv]
          obtain ⟨b, mb, es, seen, q1, q2, q3, q4, q5, q6, q7, q8, ⟨q9, q10⟩, q11⟩ := hrel.obj id _ (hc.get hl)
          generalize hvx : ρ x = vx at hx
          cases hx with
          | ptr _ b' _ p1 p2 =>
            rw [q1] at p2; injection p2 with p2; injection p2 with p2; injection p2 with p2; subst p2
            have hil : i < es.1.size := q10 i (List.mem_of_getLast? hi)
            obtain ⟨r, rfl⟩ : ∃ r, mb = some r := by
              cases mb with
              | none => have := q4.2 rfl; rw [this] at hil; simp at hil
              | some r => exact ⟨r, rfl⟩
            have hh := hrel.sat.mp r es (q4.1 r rfl)
            have hei : es.1[i]? = some es.1[i] := Array.getElem?_eq_getElem hil
            obtain ⟨init, hinit⟩ : ∃ init, done = init ++ [i] := by
              obtain ⟨ys, hys⟩ := List.getLast?_eq_some_iff.1 hi
              exact ⟨ys, hys⟩
            have hseen : seen = (init.map (bornAt es)).toArray.push es.1[i].born := by
              apply Array.toList_inj.1
              rw [q9, hinit]; simp [bornAt_get hei]
            rw [hseen] at q3
            have hrun := run_entry_at (P := P) w b r es.2 _ es.1 es.2 es.1[i] q3 hh.1 (by simp) hh.2.2.1
            refine RSound.val hrel rfl (u := .tuple #[es.1[i].key, es.1[i].val]) (by unfold execOp; simp [ho, hvx, hrun]) (.d _ _ (.tup _ _ rfl fun j u d hu hd => ?_))
            rcases j with _ | _ | j
            · simp at hu hd; subst hu; subst hd; exact q7 i _ _ hei hk
            · simp at hu hd; subst hu; subst hd; exact q8 i _ _ hei hv
            · simp at hu
        · exact hob.elim
      · exact hob.elim
    · exact hob.elim
  · exact hob.elim
theorem makeMap_ok (hrel : WRel w0 I0 w I m l) {t : TypeId} (ho : o.op = .makeMap t none) : RSound P w0 I0 o ρ w I m l L nid ⟨.map nid, .upd (l ++ [.map [] []]), True⟩ := by
  rintro rfl rfl
  have hx : (execOp ρ o).run P w = .ok (.value (.map (some w.heap.size))) (w.alloc (.map #[] 0)) := by
    unfold execOp; simp [ho, Instr.makeMap]
  simp only [hx, StepOk]
  obtain ⟨q1, q2⟩ := hrel.pushM (w' := w.alloc (.map #[] 0)) (v := .map (some w.heap.size)) rfl (Nat.le_refl _) (World.grownBy_alloc w _ _) (Nat.le_refl _) ⟨_, (#[], 0), rfl, hrel.below.size, ⟨heap_alloc_new w _, MapKept.stamped_empty 0⟩, rfl, rfl, by simp, by simp, hrel.sat.noB (Nat.le_refl _)⟩
  exact ⟨I, _, q1, q2, .map _ _ (by simp) (fun _ => upd_same m _ _)⟩
end
end Go.Eva
namespace Go.Eva
open Go Go.RowKit
variable [Drw]
section
variable {P : Program} {V : Env} {w0 w : World} {I0 I : Imm} {m : Nat → Value} {l L : List AO} {nid : Nat} {o : Oper} {ρ : Operand → Value} {ρT : Operand → T}
theorem RSound.bad {r : R} (h : r.ob → RSound P w0 I0 o ρ w I m l L nid r) (hob : r.ob) : RSound P w0 I0 o ρ w I m l L nid r := h hob
theorem exec_call_builtin {c : Call} {b : Builtin} (hcal : c.callee = .builtin b) (ho : o.op = .call c) {s : Sem Value} (hb : ∀ k, builtin b c.argTypes o.type k (c.args.map ρ) = (do pure (.value (← s)))) {u : Value} {w' : World} (hs : s.run P w = .ok u w') :
    (execOp ρ o).run P w = .ok (.value u) w' := by
  unfold execOp
  simp only [ho, resolve, hcal, Sem.run_bind, Sem.run_pure, Result.andThen_ok, invoke, hb, hs]
theorem flat_rep {zd : D} : ∀ (n j : Nat), (flat (List.replicate n zd))[j]? = if j < n * zd.cells.length then zd.cells[j % zd.cells.length]? else none
  | 0, j => by simp [flat]
  | n + 1, j => by
    have ih := flat_rep (zd := zd) n (j - zd.cells.length)
    rw [List.replicate_succ, show flat (zd :: List.replicate n zd) = zd.cells ++ flat (List.replicate n zd) by simp [flat], List.getElem?_append]
    by_cases hj : j < zd.cells.length
    · rw [if_pos hj, if_pos (by rw [Nat.succ_mul]; omega), Nat.mod_eq_of_lt hj]
    · rw [if_neg hj, ih, Nat.succ_mul, ← Nat.mod_eq_sub_mod (by omega)]
      by_cases h2 : j < n * zd.cells.length + zd.cells.length
      · rw [if_pos h2, if_pos (by omega)]
      · rw [if_neg h2, if_neg (by omega)]
theorem zero_mk {z : Value} {i : TI} (h1 : zerosOk z.cells.toList i.zero = true) (h2 : isAggV z = i.desc.agg) : (mkD i.desc.agg i.zero).cells = i.zero ∧ z.cells.size = i.zero.length ∧ ∀ (j : Nat) v d, z.cells[j]? = some v → i.zero[j]? = some d → Rd I v d ∧ d.one = true ∧ v.oneCell' = true := by
  have hlen : ∀ {vs : List Value} {ds : List D}, zerosOk vs ds = true → vs.length = ds.length := by
    intro vs
    induction vs with
    | nil => intro ds h; cases ds with | nil => rfl | cons => simp [zerosOk] at h
    | cons v vs ih => intro ds h; cases ds with
      | nil => simp [zerosOk] at h
      | cons d ds => simp only [zerosOk, Bool.and_eq_true] at h; simp [ih h.2]
  have hl := hlen h1
  have hcell : ∀ (j : Nat) v d, z.cells[j]? = some v → i.zero[j]? = some d → Rd I v d ∧ d.one = true ∧ v.oneCell' = true := fun j v d hv hd => by
    have := zeroCellD_rd I (zerosOk_cell h1 (by simpa using hv) hd)
    exact ⟨this.1, this.2, this.1.one this.2⟩
  refine ⟨?_, by simpa using hl, hcell⟩
  unfold mkD
  by_cases ha : i.desc.agg = true
  · rw [if_pos ha]; rfl
  · rw [if_neg ha]
    have hz : z.cells = #[z] := by
      have : isAggV z = false := by rw [h2]; simpa using ha
      cases z <;> first | rfl | (simp [isAggV] at this)
    rw [hz] at hl
    match hzz : i.zero, hl with
    | [d], _ =>
      have hone := (hcell 0 z d (by rw [hz]; rfl) (by rw [hzz]; rfl)).2.1
      cases d <;> first | rfl | (simp [D.one] at hone)
theorem subO_ok (hE : TOk P V.E) (hrel : WRel w0 I0 w I m l) {t e : TypeId} {sz bt : Nat} {z : List D} (hs : V.E t = some ⟨sz, bt, z, .slice e⟩) {v : Value} {id : Nat} {lo hi : Option Operand} (hx : RdT I m l v (.row id))
    (hlo : ∀ a, lo = some a → RdT I m l (ρ a) (ρT a)) (hhi : ∀ a, hi = some a → RdT I m l (ρ a) (ρT a)) (hob : (subO V.E e l id (lo.map ρT) (hi.map ρT)).ob) :
    (subO V.E e l id (lo.map ρT) (hi.map ρT)).eff = .upd l ∧ ∃ u, (Instr.sliceAt t v (lo.map ρ) (hi.map ρ) none).run P w = .ok u w ∧ RdT I m l u (subO V.E e l id (lo.map ρT) (hi.map ρT)).t := by
  have hu := underlying_slice hE hs
  have hu' : P.underlying t = some (.slice (P.elem t)) := by simp [Program.elem, hu]
  have he : P.elem t = e := by simp [Program.elem, hu]
  have hint : ∀ {a : T} {k : IntKind} {n : Int} {v : Value}, intOfT a = some (k, n) → RdT I m l v a → v = .int k n := by
    intro a k n v hn hr
    unfold intOfT at hn
    split at hn
    · simp at hn; obtain ⟨rfl, rfl⟩ := hn; have := rdD hr; cases this; rfl
    · cases hn
  unfold subO at hob ⊢
  split at hob
  · rename_i e' size els hl
    split at hob
    · rename_i hsz
      rw [if_pos hsz]
      obtain ⟨hsize, hsome⟩ := hsz
      obtain ⟨ie, hie⟩ := Option.isSome_iff_exists.1 hsome
      have hze : ie.size = size := by rw [hsize]; simp [sizeE, hie]
      have hsizeof : (sizeOf (P.elem t)).run P w = .ok size w := by rw [he, run_sizeOf_ti hE hie, hze]
      have hidl : id < l.length := (List.getElem?_eq_some_iff.1 hl).1
      obtain ⟨A, n, c, rfl, hm⟩ : ∃ A n c, v = .slice A n c ∧ m id = .slice A n c := by
        cases hx with
        | row A n c _ q1 q2 => exact ⟨A, n, c, rfl, q2 (by unfold isRow; rw [hl]; rfl)⟩
      obtain ⟨xs, k1, _⟩ := hrel.obj id _ hl
      rw [hm] at k1
      have hnc : n = els.length ∧ n ≤ c := by
        rcases k1.2 with ⟨h1, h2⟩ | ⟨g, cap, cur, h1, _, _, h2, _⟩
        · injection h1 with _ h3 h4; subst h3; subst h4; exact ⟨h2.symm, Nat.le_refl _⟩
        · injection h1 with _ h3 h4; subst h3; subst h4; exact ⟨rfl, h2⟩
      obtain ⟨rfl, hnc⟩ := hnc
      have hat : ∀ a b, (Instr.sliceAt t (.slice A els.length c) a b none).run P w = (Instr.slice t (.slice A els.length c) a b none).run P w := fun a b => run_sliceAt_slice w t _ a b none hu'
      have fin : ∀ lo hi : Nat, lo ≤ hi → hi ≤ els.length → RdT I m l (sliced A lo hi c size) (.sub id lo hi) := fun lo hi h1 h2 =>
        .sub _ _ _ _ _ _ hidl fun e2 size2 els2 hl2 => by
          rw [hl] at hl2
          have : size2 = size := by
            rcases hl2 with h | h
            · injection h with h; injection h with _ h _; exact h.symm
            · injection h with h; cases h
          subst this
          exact ⟨A, _, c, hm, h1, h2, rfl⟩
      cases lo with
      | none =>
        cases hi with
        | none => exact hob.elim
        | some b =>
          simp only [Option.map_none, Option.map_some] at hob ⊢
          split at hob
          · rename_i k h hb
            have hv := hint hb (hhi b rfl)
            simp only
            refine ⟨trivial, _, by rw [hat, hv, run_slice_h w t A _ c hu' _ _ hob.1 (by omega), hsizeof]; rfl, ?_⟩
            exact fin 0 h.toNat (Nat.zero_le _) (by omega)
          · exact hob.elim
      | some a =>
        cases hi with
        | some b => exact hob.elim
        | none =>
          simp only [Option.map_none, Option.map_some] at hob ⊢
          split at hob
          · rename_i k h ha
            have hv := hint ha (hlo a rfl)
            simp only
            have := run_slice_l w t A els.length c hu' k h hob.1 (by omega)
            refine ⟨trivial, _, by rw [hat, hv, this, hsizeof]; rfl, ?_⟩
            exact fin h.toNat els.length (by omega) (Nat.le_refl _)
          · exact hob.elim
    · exact hob.elim
  · exact hob.elim
theorem subO_eff {E : TEnv} {e : TypeId} {l : List AO} {id : Nat} {lo hi : Option T} : (subO E e l id lo hi).eff = .upd l ∨ subO E e l id lo hi = .bad := by
  unfold subO
  repeat' split
  all_goals simp
theorem makeT_eff {E : TEnv} {t : TypeId} {nid : Nat} {a b : T} (hob : (makeT E t l nid a b).ob) : ∃ l', (makeT E t l nid a b).eff = .upd l' := by
  revert hob
  unfold makeT
  repeat' split
  all_goals simp [R.bad]
theorem makeT_ok (hE : TOk P V.E) (hrel : WRel w0 I0 w I m l) {t : TypeId} {va vb : Value} {a b : T} (ha : RdT I m l va a) (hb : RdT I m l vb b) (hob : (makeT V.E t l l.length a b).ob) :
    ∃ l' w' v m', (makeT V.E t l l.length a b).eff = .upd l' ∧ (Instr.makeSlice t va vb).run P w = .ok v w' ∧ Le I m l I m' l' ∧ WRel w0 I0 w' I m' l' ∧ RdT I m' l' v (makeT V.E t l l.length a b).t := by
  have hint : ∀ {a : T} {k : IntKind} {n : Int} {v : Value}, intOfT a = some (k, n) → RdT I m l v a → v = .int k n := by
    intro a k n v hn hr
    unfold intOfT at hn
    split at hn
    · simp at hn; obtain ⟨rfl, rfl⟩ := hn; have := rdD hr; cases this; rfl
    · cases hn
  unfold makeT at hob ⊢
  split at hob
  · rename_i e ka n kb c hs hia hib
    have hu := underlying_slice hE hs
    split at hob
    · rename_i i hi
      split at hob
      · rename_i hpos
        simp only [hi, if_pos hpos]
        obtain ⟨h0, rfl, hby, hmx⟩ := hob
        have hva := hint hia ha
        have hvb := hint hib hb
        obtain ⟨N, rfl⟩ := Int.eq_ofNat_of_zero_le h0
        subst hva; subst hvb
        obtain ⟨x, z, q1, q2, q3, q4, q5, q6, q7, q8⟩ := tiOk_parts (hE e i hi)
        obtain ⟨d1, d2, d3⟩ := zero_mk (I := I) q5 q6
        have hzs : z.cells.size = i.size := by rw [d2, q8]
        have hbn : x.bytes * N ≤ 281474976710656 := by
          rw [q3, Nat.mul_comm]
          have : ((N * i.bytes : Nat) : Int) ≤ 140737488355328 := by rw [Int.natCast_mul]; exact hby
          omega
        obtain ⟨w', h1, h2, h3⟩ := run_make_full (P := P) w w0.heap.size t e x z i.size hu q1 q4 q2 ka kb N hbn (by unfold maxLen; omega) hrel.below.size
        have hrepl : (List.replicate N (mkD i.desc.agg i.zero)).length = N := by simp
        obtain ⟨r1, r2, r3⟩ := hrel.push_row (w' := w') (v := .slice (some ⟨w.heap.size, 0, none⟩) N N) (row := none) (lo := l) (e := e) (size := i.size) (els := List.replicate N (mkD i.desc.agg i.zero)) rfl (fun k a ha => .inr ha) (fun _ _ _ h => h)
          h3 (run_drawn _ _ _ _ _ h1) (fun b hb => by cases hb) (fun b hb => by cases hb)
          (fun b hb => by
            simp [own] at hb; subst hb
            refine ⟨hrel.below.size, hrel.sat.noB (Nat.le_refl _), fun k hk he => ?_⟩
            obtain ⟨a, ha, hda⟩ := alive_iff.1 hk
            have := ((hrel.obj k a ha).lt hda he).1; omega)
          (by rw [hrepl]; exact h2) (fun d hd => by
            have := List.eq_of_mem_replicate hd
            subst this
            rw [d1]
            refine ⟨q8, fun x hx => ?_⟩
            obtain ⟨j, hj, rfl⟩ := List.mem_iff_getElem.1 hx
            exact (d3 j _ _ (Array.getElem?_eq_getElem (by rw [d2]; exact hj)) (List.getElem?_eq_getElem hj)).2.1) (fun j u y hu hy => by
            rw [flat_rep, d1, q8] at hy
            split at hy
            · rename_i hj
              have hm : j % i.size < z.cells.size := by rw [hzs]; exact Nat.mod_lt _ hpos
              have hu' : u = z.cells[j % i.size] := by
                simp [madeCells, hzs, hj] at hu
                rw [getElem!_pos z.cells _ hm] at hu
                exact hu.symm
              subst hu'
              exact (d3 _ _ y (Array.getElem?_eq_getElem hm) hy).1
            · cases hy) ⟨_, _, _, rfl⟩
        exact ⟨_, w', _, _, rfl, h1, r1, r2, r3⟩
      · exact hob.elim
    · exact hob.elim
  · exact hob.elim
theorem clearT_eff {E : TEnv} {t : TypeId} {x : T} (hob : (clearT E t l x).ob) : ∃ l', (clearT E t l x).eff = .upd l' := by
  revert hob
  unfold clearT
  repeat' split
  all_goals simp [R.bad]
theorem clearT_ok (hE : TOk P V.E) (hrel : WRel w0 I0 w I m l) {t ty : TypeId} {v : Value} {x : T} (hx : RdT I m l v x) (hob : (clearT V.E t l x).ob) :
    (clearT V.E t l x).t = .d (.tup []) ∧ ∃ l' w', (clearT V.E t l x).eff = .upd l' ∧ (Builtin.clear_ #[t] ty #[v]).run P w = .ok (.tuple #[]) w' ∧ Le I m l I m l' ∧ WRel w0 I0 w' I m l' := by
  unfold clearT at hob ⊢
  split at hob
  · rename_i e id lo hi hs
    have hu := underlying_slice hE hs
    split at hob
    · rename_i i e' size els hi' hl
      split at hob
      · rename_i hc
        simp only [hi', hl, if_pos hc]
        obtain ⟨hsz, rfl, hpos⟩ := hc
        subst hsz
        refine ⟨trivial, ?_⟩
        obtain ⟨A, n, c, rfl, A0, n0, c0, hm, h1, h2, h3⟩ : ∃ A n c, v = .slice A n c ∧ ∃ A0 n0 c0, m id = .slice A0 n0 c0 ∧ lo ≤ els.length ∧ els.length ≤ n0 ∧ Value.slice A n c = sliced A0 lo els.length c0 i.size := by
          cases hx with
          | sub A n c _ _ _ q1 q2 => exact ⟨A, n, c, rfl, q2 e' i.size els (.inl hl)⟩
        obtain ⟨xs, k1, k2, k3, k4⟩ := hrel.obj id _ hl
        rw [hm] at k1
        obtain ⟨hxl, hcase⟩ := k1
        injection h3 with hA hn hcc
        have hn0 : n0 = els.length := by
          rcases hcase with ⟨h1, h2⟩ | ⟨g, cap, cur, h1, _⟩
          · injection h1 with _ h3 h4; omega
          · injection h1
        subst hn0
        rcases Nat.eq_or_lt_of_le h1 with hlo | hlo
        · -- nothing to clear
          have hn' : n = 0 := by omega
          subst hn'
          have hsame : l.set id (.row e' i.size (els.take lo ++ List.replicate (els.length - lo) (mkD i.desc.agg i.zero))) = l := by
            rw [show els.length - lo = 0 by omega, hlo]
            simp
            apply List.ext_getElem?
            intro k
            rw [List.getElem?_set]
            split
            · rename_i hk; subst hk; rw [hl]; simp; exact (List.getElem?_eq_some_iff.1 hl).1
            · rfl
          refine ⟨_, w, rfl, ?_, ?_, ?_⟩
          · cases A <;> simp [Builtin.clear_, run_underlying hu]
          · rw [hsame]; exact .refl ..
          · rw [hsame]; exact hrel
        · rcases hcase with ⟨h1, h2⟩ | ⟨g, cap, cur, hv, hb, hg, hnc, hcap, hcs, htk⟩
          · omega
          injection hv with hv1 _ hv3
          subst hv3
          subst hv1
          have hA' : A = some ⟨g, lo * i.size, none⟩ := by rw [hA, if_neg (by omega)]; simp [Addr.add_lit]
          obtain ⟨m', rfl⟩ : ∃ m', n = m' + 1 := ⟨n - 1, by omega⟩
          obtain ⟨zv, z1, z2, z3, z4⟩ := run_zero_ti hE hi' w
          obtain ⟨d1, d2, d3⟩ := zero_mk (I := I) z2 z3
          have hzs : zv.cells.size = i.size := by rw [d2, z4]
          have hzl : (Builtin.zeroCells zv.cells (m' + 1)).toList.length = (els.length - lo) * i.size := by rw [Array.length_toList, size_zeroCells, hzs, hn]
          have hzg : ∀ (j : Nat), j < (els.length - lo) * i.size → (Builtin.zeroCells zv.cells (m' + 1)).toList[j]? = zv.cells[j % i.size]? := fun j hj => by
            have : j % i.size < zv.cells.size := by rw [hzs]; exact Nat.mod_lt _ hpos
            simp [Builtin.zeroCells, hzs, hn, hj]
            rw [Array.getElem?_eq_getElem this]
            exact congrArg some (getElem!_pos zv.cells _ this)
          have hone : ∀ u ∈ (Builtin.zeroCells zv.cells (m' + 1)).toList, u.oneCell' = true := fun u hu' => by
            obtain ⟨j, hj, rfl⟩ := List.mem_iff_getElem.1 hu'
            rw [hzl] at hj
            have hg := hzg j hj
            rw [List.getElem?_eq_getElem (by rw [hzl]; exact hj)] at hg
            have hm : j % i.size < i.zero.length := by rw [z4]; exact Nat.mod_lt _ hpos
            exact (d3 _ _ i.zero[j % i.size] hg.symm (List.getElem?_eq_getElem hm)).2.2
          have hle : (els.length - lo) * i.size + lo * i.size = els.length * i.size := by rw [← Nat.add_mul]; congr 1; omega
          have hmul2 : els.length * i.size ≤ cur.size := by rw [hcs]; exact Nat.mul_le_mul_right _ hnc
          have hst := run_storeCells_at P g (lo * i.size) e' (Builtin.zeroCells zv.cells (m' + 1)).toList 0 cur w hg (by rw [hzl]; omega) hone
          simp only [Nat.add_zero] at hst
          generalize hzc : (Builtin.zeroCells zv.cells (m' + 1)).toList = zc at *
          rw [hzl] at hst
          generalize hnew : (cur.toList.take (lo * i.size) ++ zc ++ cur.toList.drop (lo * i.size + (els.length - lo) * i.size)).toArray = new at hst
          have hnl : new.toList = cur.toList.take (lo * i.size) ++ zc ++ cur.toList.drop (lo * i.size + (els.length - lo) * i.size) := by subst hnew; simp
          have hns : new.size = cur.size := by
            rw [← Array.length_toList, hnl]
            simp only [List.length_append, List.length_take, List.length_drop, Array.length_toList, hzl]
            omega
          have hxs' : new.toList.take (els.length * i.size) = xs.take (lo * i.size) ++ zc := by
            rw [hnl, ← htk, take_mid _ _ _ _ _ (by omega) (by rw [Array.length_toList]; exact hmul2) hzl]
            rw [List.drop_of_length_le (by rw [List.length_take]; omega)]
            simp
          have hll : (els.take lo ++ List.replicate (els.length - lo) (mkD i.desc.agg i.zero)).length = els.length := by simp; omega
          obtain ⟨t1, t2⟩ := hrel.turnRow (n := els.length) (c := c0) (cur := cur) (new := new) (els' := els.take lo ++ List.replicate (els.length - lo) (mkD i.desc.agg i.zero)) (xs := xs.take (lo * i.size) ++ zc) hl hm hg
            ⟨by rw [hll]; simp only [List.length_append, List.length_take, hxl, hzl]; omega, .inr ⟨g, c0, new, by rw [hll], hb, setRow_heap w g cur new e' (0, 0) hg, by rw [hll]; exact hnc, hcap, by rw [hns, hcs], by rw [hll]; exact hxs'⟩⟩
            (fun d hd => by
              rcases List.mem_append.1 hd with hd | hd
              · exact k2 d (List.mem_of_mem_take hd)
              · have := List.eq_of_mem_replicate hd
                subst this
                rw [d1]
                refine ⟨z4, fun x hx => ?_⟩
                obtain ⟨j, hj, rfl⟩ := List.mem_iff_getElem.1 hx
                have hj' : j < zv.cells.size := by rw [d2]; exact hj
                exact (d3 j _ _ (Array.getElem?_eq_getElem hj') (List.getElem?_eq_getElem hj)).2.1)
            (fun j u y hu hy => by
              have hfl : (flat els).length = els.length * i.size := flat_len els (fun d hd => (k2 d hd).1)
              rw [flat_append, flat_take els (fun d hd => (k2 d hd).1), List.getElem?_append] at hy
              rw [List.getElem?_append] at hu
              have l1 : (xs.take (lo * i.size)).length = lo * i.size := by rw [List.length_take]; omega
              have l2 : ((flat els).take (lo * i.size)).length = lo * i.size := by rw [List.length_take]; omega
              rw [l1] at hu; rw [l2] at hy
              by_cases hj : j < lo * i.size
              · rw [if_pos hj] at hu hy
                rw [List.getElem?_take, if_pos hj] at hu hy
                exact k3 j u y hu hy
              · rw [if_neg hj] at hu hy
                rw [flat_rep, d1, z4] at hy
                split at hy
                · rename_i hj2
                  rw [hzg _ hj2] at hu
                  exact (d3 _ u y hu hy).1
                · cases hy)
          refine ⟨_, _, rfl, ?_, t1, t2⟩
          rw [hA']
          simp only [Builtin.clear_, List.getElem?_toArray, List.getElem?_cons_zero]
          simp [run_underlying hu, z1, hzc, hst]
      · exact hob.elim
    · exact hob.elim
  · exact hob.elim
theorem put_sound (hE : TOk P V.E) (hrel : WRel w0 I0 w I m L) {t : TypeId} {mm k x : Operand} (ho : o.op = .mapUpdate t mm k x ∨ o.op = .insert t mm k x) (hr : ∀ x ∈ o.op.operands, RdT I m L (ρ x) (ρT x)) (hob : (mapPutT V.E t l (ρT mm) (ρT k) (ρT x)).ob) :
    RSound P w0 I0 o ρ w I m l L nid (mapPutT V.E t l (ρT mm) (ρT k) (ρT x)) := by
  have hm := hr mm (by rcases ho with ho | ho <;> simp [ho, Op.operands])
  have hk := hr k (by rcases ho with ho | ho <;> simp [ho, Op.operands])
  have hx := hr x (by rcases ho with ho | ho <;> simp [ho, Op.operands])
  have heff : ∃ l', (mapPutT V.E t l (ρT mm) (ρT k) (ρT x)).eff = .upd l' ∧ (mapPutT V.E t l (ρT mm) (ρT k) (ρT x)).t = .undef := by
    generalize ρT mm = ts at *; generalize ρT k = tk at *; generalize ρT x = tx at *
    unfold mapPutT at hob ⊢
    repeat' split at hob
    all_goals first | exact hob.elim | skip
    all_goals simp only [*]
    all_goals exact ⟨_, rfl, rfl⟩
  obtain ⟨l', hl', ht⟩ := heff
  unfold RSound
  rw [hl']
  rintro rfl hn
  obtain ⟨l'', w', h1, h2, h3, h4⟩ := put_ok hE hrel hm hk hx hob
  rw [hl'] at h1; injection h1 with h1; subst h1
  have hex : (execOp ρ o).run P w = .ok .skip w' := by unfold execOp; rcases ho with ho | ho <;> simp [ho, h2]
  simp only [hex, StepOk]
  exact ⟨I, m, h3, h4, by rw [ht]; exact .undef _⟩
theorem evalOp_sound (hV : VOk P V) (hrel : WRel w0 I0 w I m L) (hc : Com l L) (hr : ∀ x ∈ o.op.operands, RdT I m L (ρ x) (ρT x)) (hob : (evalOp V ρT l nid o).ob) : RSound P w0 I0 o ρ w I m l L nid (evalOp V ρT l nid o) := by
  unfold evalOp at hob ⊢
  split at hob
  · -- move
    rename_i x ho
    exact RSound.val hrel rfl (u := ρ x) (by unfold execOp; simp [ho]) (typed_ok (hr x (by simp [ho, Op.operands])))
  · -- assign
    rename_i x ho
    exact RSound.val hrel rfl (u := ρ x) (by unfold execOp; simp [ho]) (typed_ok (hr x (by simp [ho, Op.operands])))
  · -- pick
    rename_i c a b ho
    exact pick_ok hrel ho hr hob
  · -- box
    rename_i e x ho
    exact box_ok hrel ho (hr x (by simp [ho, Op.operands])) hob
  · -- alloc
    rename_i e ho
    split at hob
    · rename_i i hi
      try simp only [hi]
      exact alloc_ok hV.E hrel ho hi
    · exact hob.elim
  · -- load
    rename_i t a ho
    obtain ⟨h1, u, h2, h3⟩ := loadAs_ok hV.E hrel hc (unbox_ok (hr a (by simp [ho, Op.operands]))) hob
    exact RSound.val hrel h1 (by unfold execOp; simp [ho, h2]) h3
  · -- store
    rename_i t a x ho
    split at hob
    · rename_i hn
      simp only [if_pos hn]
      have ha := hr a (by simp [ho, Op.operands])
      have hx := hr x (by simp [ho, Op.operands])
      generalize hta : ρT a = ta at *
      unfold storeAs at hob ⊢
      split at hob
      · rename_i id off y
        split at hob
        · rename_i t' cs hl
          split at hob
          · rename_i hle
            simp only [if_pos hle]
            rintro rfl hnid
            generalize hva : ρ a = va at ha
            cases ha with
            | ptr _ b _ q1 q2 =>
              obtain ⟨w', h1, h2⟩ := store_ok hV.E hrel hl q2 hx hob hn.1 (by omega) hle
              have hex : (execOp ρ o).run P w = .ok .skip w' := by unfold execOp; simp [ho, hva, h1]
              simp only [hex, StepOk]
              exact ⟨I, m, Le.setVar hl, h2, .undef _⟩
          · exact hob.elim
        · exact hob.elim
      · rename_i id k y heq2
        split at hob
        · rename_i e' size els hl
          rw [heq2] at hx hn
          obtain ⟨hb1, hb2, hb3⟩ := hob
          rintro rfl hnid
          generalize hva : ρ a = va at ha
          cases ha with
          | rptr ad _ _ _ q1 q2 =>
            obtain ⟨w', h1, h2, h3⟩ := rowStore_ok (ty := t) hV.E hrel hl (.rptr ad id k 0 q1 q2) (rdD hx) hb1 hb2 hb3 (by simpa [cellsT] using hn.1) (by have := hn.1; simp [cellsT] at this; omega)
            have hex : (execOp ρ o).run P w = .ok .skip w' := by unfold execOp; simp [ho, hva, h1]
            simp only [hex, StepOk]
            exact ⟨I, m, h2, h3, .undef _⟩
        · exact hob.elim
      · exact hob.elim
    · exact hob.elim
  · -- fieldAddr
    rename_i s x f ho
    obtain ⟨h1, u, h2, h3⟩ := field_ok (w := w) hV.E (unbox_ok (hr x (by simp [ho, Op.operands]))) hob
    exact RSound.val hrel h1 (by unfold execOp; simp [ho, h2]) h3
  · -- field
    rename_i s x f ho
    obtain ⟨h1, u, h2, h3⟩ := fieldV_ok (w := w) hV.E (hr x (by simp [ho, Op.operands])) hob
    exact RSound.val hrel h1 (by unfold execOp; simp [ho, h2]) h3
  · -- binOp
    rename_i op ty x y t' ho
    have hx := hr x (by simp [ho, Op.operands])
    have hy := hr y (by simp [ho, Op.operands])
    split at hob
    · rename_i a b h1 h2
      rw [h1] at hx; rw [h2] at hy
      unfold ofD at hob ⊢
      split at hob
      · rename_i r ob hb
        obtain ⟨z, h3, h4⟩ := bin_ok (w := w) (x := x) (y := y) hV.eq (rdD hx) (rdD hy) hb hob
        try simp only [h1, h2, hb]
        exact RSound.val hrel rfl (by unfold execOp; simp only [ho, Sem.run_bind] at h3 ⊢; rw [h3]; rfl) (.d _ _ h4)
      · exact hob.elim
    · exact hob.elim
  · -- unOp
    rename_i op ty x ho
    have hx := hr x (by simp [ho, Op.operands])
    split at hob
    · rename_i a h1
      rw [h1] at hx
      unfold ofD at hob ⊢
      split at hob
      · rename_i r ob hb
        obtain ⟨z, h3, h4⟩ := un_ok (P := P) (w := w) (rdD hx) hb hob
        try simp only [h1, hb]
        exact RSound.val hrel rfl (by unfold execOp; simp [ho, h3]) (.d _ _ h4)
      · exact hob.elim
    · exact hob.elim
  · -- indexAddr
    rename_i t x i ho
    obtain ⟨h1, u, h2, h3⟩ := index_ok hV.E hrel hc (unbox_ok (hr x (by simp [ho, Op.operands]))) (hr i (by simp [ho, Op.operands])) hob
    exact RSound.val hrel h1 (by unfold execOp; simp [ho, h2]) h3
  · -- slice
    rename_i t x lo hi ho
    have hx := hr x (by simp [ho, Op.operands])
    split at hob
    · rename_i e size els hs hxe
      rw [hxe] at hx
      split at hob
      · rename_i hsz
        simp only [if_pos hsz]
        obtain ⟨h1, u, h2, h3⟩ := slice_ok (w := w) (lo := lo) (hi := hi) (ρ := ρ) (ρT := ρT) hV.E hs hx (fun a ha => hr a (by subst ha; simp [ho, Op.operands])) (fun a ha => hr a (by subst ha; simp [ho, Op.operands]))
          (fun s' e' he => by injection he with he; injection he with h1 h2; subst h1; exact hsz) hob
        exact RSound.val hrel h1 (by unfold execOp; simp [ho, h2]) h3
      · exact hob.elim
    · rename_i e id hs hxe
      rw [hxe] at hx
      split at hob
      · rename_i hsub
        simp only [if_pos hsub]
        have heff : (subO V.E e l id (lo.map ρT) (hi.map ρT)).eff = .upd l := by
          unfold subO at hob ⊢
          repeat' split at hob
          all_goals first | exact hob.elim | skip
          all_goals simp only [*]
          all_goals rfl
        unfold RSound
        rw [heff]
        rintro rfl hnid
        obtain ⟨h1, u, h2, h3⟩ := subO_ok (w := w) (lo := lo) (hi := hi) (ρ := ρ) (ρT := ρT) hV.E hrel hs hx (fun a ha => hr a (by subst ha; simp [ho, Op.operands])) (fun a ha => hr a (by subst ha; simp [ho, Op.operands])) hob
        have hex : (execOp ρ o).run P w = .ok (.value u) w := by unfold execOp; simp [ho, h2]
        simp only [hex, StepOk]
        exact ⟨I, m, .refl .., hrel, h3⟩
      rename_i hsub
      simp only [if_neg hsub]
      split at hob
      · rename_i size els l' hd
        split at hob
        · rename_i hsz
          simp only [if_pos hsz]
          rintro rfl hnid
          obtain ⟨J, le, r1, hrd, _⟩ := toD_ok hrel hx hd
          obtain ⟨h1, u, h2, h3⟩ := slice_ok (w := w) (lo := lo) (hi := hi) (ρ := ρ) (ρT := ρT) (I := J) (m := m) (L := l') hV.E hs (.d _ _ hrd) (fun a ha => (hr a (by subst ha; simp [ho, Op.operands])).mono le) (fun a ha => (hr a (by subst ha; simp [ho, Op.operands])).mono le)
            (fun s' e' he => by injection he with he; injection he with h1 h2; subst h1; exact hsz) hob
          have hex : (execOp ρ o).run P w = .ok (.value u) w := by unfold execOp; simp [ho, h2]
          simp only [hex, StepOk]
          exact ⟨J, m, le, r1, h3⟩
        · exact hob.elim
      · exact hob.elim
    · exact hob.elim
  · -- build
    rename_i t parts ho
    split at hob
    · rename_i z fs hs
      split at hob
      · rename_i hall
        split at hob
        · rename_i ds hf
          simp only [if_pos hall]
          obtain ⟨u, h1, h2⟩ := build_ok (P := P) (w := w) (I := I) (m := m) (L := L) (ρ := ρ) (ρT := ρT) hV.E hs (fun p hp => hr p.2 (by simp only [ho, Op.operands]; simp; exact ⟨p.1, by simpa using hp⟩)) hf (fun f hf' => List.all_eq_true.1 hall f hf')
          exact RSound.val hrel rfl (by unfold execOp; simp [ho, h1]) h2
        · exact hob.elim
      · exact hob.elim
    · exact hob.elim
  · -- buildSlice
    rename_i t len parts ho
    split at hob
    · rename_i e hs
      split at hob
      · rename_i he
        simp only [if_pos he]
        split at hob
        · rename_i hlen
          simp only [if_pos hlen]
          subst hlen
          rintro rfl rfl
          have hpe : parts = #[] := by simpa using hob
          subst hpe
          have hu := underlying_slice hV.E hs
          obtain ⟨i, hi⟩ := Option.isSome_iff_exists.1 he.1
          have hsz : sizeE V.E e = i.size := by simp [sizeE, hi]
          have hex : (execOp ρ o).run P w = .ok (.value (.slice (some ⟨w.heap.size, 0, none⟩) 0 0)) (w.alloc (.cells #[] e)) := by
            unfold execOp
            simp [ho, Instr.buildSlice, run_underlying hu, run_sizeOf_ti hV.E hi, Instr.fill, newRow, Array.range_zero']
          simp only [hex, StepOk]
          obtain ⟨q1, q2, q3⟩ := hrel.push_row (w' := w.alloc (.cells #[] e)) (v := .slice (some ⟨w.heap.size, 0, none⟩) 0 0) (row := none) (lo := L) (e := e) (size := sizeE V.E e) (els := []) (xs := []) rfl (fun k a ha => .inr ha) (fun _ _ _ h => h)
            (World.grownBy_alloc w _ _) (Nat.le_refl _) (fun b hb => by cases hb) (fun b hb => by cases hb)
            (fun b hb => by
              simp [own] at hb; subst hb
              refine ⟨hrel.below.size, hrel.sat.noB (Nat.le_refl _), fun k hk he => ?_⟩
              obtain ⟨a, ha, hda⟩ := alive_iff.1 hk
              have := ((hrel.obj k a ha).lt hda he).1; omega)
            ⟨by simp, .inr ⟨w.heap.size, 0, #[], rfl, hrel.below.size, heap_alloc_new w _, Nat.zero_le _, Nat.zero_le _, by simp, by simp⟩⟩ (by simp) (by simp [flat]) ⟨_, _, _, rfl⟩
          exact ⟨I, _, q1, q2, q3⟩
        · rename_i hlen
          simp only [if_neg hlen]
          split at hob
          · rename_i ds hm
            split at hob
            · rename_i hcc
              simp only [if_pos hcc]
              obtain ⟨p1, p2⟩ := mapM_parts (I := I) (m := m) (L := L) (ρ := ρ) parts.toList ds (fun p hp => hr p.2 (by simp only [ho, Op.operands]; simp; exact ⟨p.1, by simpa using hp⟩)) hm
              obtain ⟨w', J, h1, h2, h3, h4⟩ := buildSlice_ok hV.E hrel hs (ρ := ρ) p1 p2 he hlen hcc
              unfold RSound
              have hex : (execOp ρ o).run P w = .ok (.value (.slice (some ⟨w.heap.size, 0, none⟩) len len)) w' := by unfold execOp; simp [ho, h1]
              simp only [R.ok, hex, StepOk]
              exact ⟨J, h2, h3, .d _ _ h4⟩
            · exact hob.elim
          · rename_i hm
            split at hob
            · rename_i ds l1 hd
              split at hob
              · rename_i hcc
                simp only [if_pos hcc]
                rintro rfl rfl
                have hargs : ∀ (i : Nat) v t, (parts.toList.map fun p => ρ p.2)[i]? = some v → (parts.toList.map fun p => ρT p.2)[i]? = some t → RdT I m L v t := fun i v t hv ht => by
                  rw [List.getElem?_map] at hv ht
                  cases hp : parts.toList[i]? with
                  | none => simp [hp] at hv
                  | some p =>
                    simp [hp] at hv ht; subst hv; subst ht
                    refine hr p.2 ?_
                    have := List.mem_of_getElem? hp
                    simp only [ho, Op.operands]; simp; exact ⟨p.1, by simpa using this⟩
                obtain ⟨J1, le1, r1, k1, k2, _⟩ := argsD_ok _ L I (parts.toList.map fun p => ρ p.2) ds l1 hrel (by simp) hargs hd
                obtain ⟨w', J, h1, h2, h3, h4⟩ := buildSlice_ok hV.E r1 hs (ρ := ρ) (by simpa using k1) (fun i p d hp hd' => k2 i _ d (by rw [List.getElem?_map, hp]; rfl) hd') he hlen hcc
                have hex : (execOp ρ o).run P w = .ok (.value (.slice (some ⟨w.heap.size, 0, none⟩) len len)) w' := by unfold execOp; simp [ho, h1]
                simp only [hex, StepOk]
                exact ⟨J, _, le1.trans h2, h3, .d _ _ h4⟩
              · exact hob.elim
            · exact hob.elim
      · exact hob.elim
    · exact hob.elim
  · -- extract
    rename_i x i ho
    have hx := hr x (by simp [ho, Op.operands])
    split at hob
    · rename_i ds hxd
      rw [hxd] at hx
      split at hob
      · rename_i d hd
        try simp only [hxd, hd]
        have := rdD hx
        generalize hvx : ρ x = vx at this
        cases this with
        | tup vs _ q1 q2 =>
          have hlt : i < vs.size := by rw [q1]; exact (List.getElem?_eq_some_iff.1 hd).1
          have hv : vs[i]? = some vs[i] := Array.getElem?_eq_getElem hlt
          exact RSound.val hrel rfl (u := vs[i]) (by unfold execOp; simp [ho, hvx, Instr.extract, hlt]) (.d _ _ (q2 i _ _ hv hd))
      · exact hob.elim
    · rename_i ts hxd
      rw [hxd] at hx
      split at hob
      · rename_i d hd
        try simp only [hxd, hd]
        generalize hvx : ρ x = vx at hx
        cases hx with
        | tup vs _ q1 q2 =>
          have hlt : i < vs.size := by rw [q1]; exact (List.getElem?_eq_some_iff.1 hd).1
          have hv : vs[i]? = some vs[i] := Array.getElem?_eq_getElem hlt
          exact RSound.val hrel rfl (u := vs[i]) (by unfold execOp; simp [ho, hvx, Instr.extract, hlt]) (q2 i _ _ hv hd)
      · exact hob.elim
    · exact hob.elim
  · -- call
    rename_i c ho
    split at hob
    · rename_i f hcal
      try simp only [hcal]
      split at hob
      · rename_i g hf
        try simp only [hf]
        exact callT_ok hV hrel hc hr (by simp [cloOf, ho, hcal, hf]) hob
      · rename_i g ds hf
        try simp only [hf]
        exact callT_ok hV hrel hc hr (by simp [cloOf, ho, hcal, hf]) hob
      · exact hob.elim
    · rename_i hcal
      try simp only [hcal]
      split at hob
      · rename_i x t ha ht
        try simp only [ha, ht]
        have hx := hr x (by simp [ho, Op.operands, Call.operands, hcal]; rw [← Array.mem_toList_iff, ha]; simp)
        obtain ⟨h1, u, h2, h3⟩ := lenT_ok (ty := o.type) hV.E hrel hc hx hob
        refine RSound.val hrel h1 (exec_call_builtin hcal ho (fun k => rfl) ?_) h3
        have e1 : c.args.map ρ = #[ρ x] := by apply Array.toList_inj.1; simp [ha]
        have e2 : c.argTypes = #[t] := by apply Array.toList_inj.1; simp [ht]
        rw [e1, e2]; exact h2
      · exact hob.elim
    · rename_i hcal
      try simp only [hcal]
      split at hob
      · rename_i s x t t' ha ht
        try simp only [ha, ht]
        split at hob
        · rename_i htt
          subst htt
          simp only [if_true]
          have hs := hr s (by simp [ho, Op.operands, Call.operands, hcal]; rw [← Array.mem_toList_iff, ha]; simp)
          have hx := hr x (by simp [ho, Op.operands, Call.operands, hcal]; rw [← Array.mem_toList_iff, ha]; simp)
          have e1 : c.args.map ρ = #[ρ s, ρ x] := by apply Array.toList_inj.1; simp [ha]
          have e2 : c.argTypes = #[t, t] := by apply Array.toList_inj.1; simp [ht]
          -- the effect is 'upd' whatever the objects
          have heff : ∃ l', (appendT V.E t l nid (ρT s) (ρT x)).eff = .upd l' := by
            generalize ρT s = ts at *; generalize ρT x = tx at *
            unfold appendT at hob ⊢
            repeat' split at hob
            all_goals first | exact hob.elim | skip
            all_goals simp only [*]
            all_goals exact ⟨_, rfl⟩
          obtain ⟨l', hl'⟩ := heff
          unfold RSound
          rw [hl']
          rintro rfl hn
          obtain ⟨l'', v', w', J, m', h1, h2, h3, h4, h5⟩ := append_ok (nid := nid) (ty := o.type) (t := t) hV.E hrel hs hx hn hob
          rw [hl'] at h1; injection h1 with h1; subst h1
          have hex : (execOp ρ o).run P w = .ok (.value v') w' := exec_call_builtin hcal ho (fun k => rfl) (by rw [e1, e2]; exact h2)
          simp only [hex, StepOk]
          exact ⟨J, m', h3, h4, h5⟩
        · exact hob.elim
      · exact hob.elim
    · rename_i hcal
      try simp only [hcal]
      split at hob
      · rename_i x t ha ht
        try simp only [ha, ht]
        have hx := hr x (by simp [ho, Op.operands, Call.operands, hcal]; rw [← Array.mem_toList_iff, ha]; simp)
        have e1 : c.args.map ρ = #[ρ x] := by apply Array.toList_inj.1; simp [ha]
        have e2 : c.argTypes = #[t] := by apply Array.toList_inj.1; simp [ht]
        have heff := clearT_eff hob
        obtain ⟨l', hl'⟩ := heff
        unfold RSound
        rw [hl']
        rintro rfl hn
        obtain ⟨ht0, l'', w', h1, h2, h3, h4⟩ := clearT_ok (ty := o.type) hV.E hrel hx hob
        rw [hl'] at h1; injection h1 with h1; subst h1
        have hex : (execOp ρ o).run P w = .ok (.value (.tuple #[])) w' := exec_call_builtin hcal ho (fun k => rfl) (by rw [e1, e2]; exact h2)
        simp only [hex, StepOk]
        exact ⟨I, m, h3, h4, by rw [ht0]; exact .d _ _ (.tup _ _ rfl (by simp))⟩
      · exact hob.elim
    · rename_i hcal
      try simp only [hcal]
      split at hob
      · rename_i x k t t2 ha ht
        try simp only [ha, ht]
        have hx := hr x (by simp [ho, Op.operands, Call.operands, hcal]; rw [← Array.mem_toList_iff, ha]; simp)
        have hk := hr k (by simp [ho, Op.operands, Call.operands, hcal]; rw [← Array.mem_toList_iff, ha]; simp)
        have e1 : c.args.map ρ = #[ρ x, ρ k] := by apply Array.toList_inj.1; simp [ha]
        have e2 : c.argTypes = #[t, t2] := by apply Array.toList_inj.1; simp [ht]
        have heff : ∃ l', (mapDelT V.E t l (ρT x) (ρT k)).eff = .upd l' := by
          generalize ρT x = ts at *; generalize ρT k = tx at *
          unfold mapDelT at hob ⊢
          repeat' split at hob
          all_goals first | exact hob.elim | skip
          all_goals simp only [*]
          all_goals exact ⟨_, rfl⟩
        obtain ⟨l', hl'⟩ := heff
        unfold RSound
        rw [hl']
        rintro rfl hn
        obtain ⟨ht0, l'', w', h1, h2, h3, h4⟩ := del_ok (t2 := t2) (ty := o.type) hV.E hrel hx hk hob
        rw [hl'] at h1; injection h1 with h1; subst h1
        have hex : (execOp ρ o).run P w = .ok (.value (.tuple #[])) w' := exec_call_builtin hcal ho (fun k => rfl) (by rw [e1, e2]; exact h2)
        simp only [hex, StepOk]
        exact ⟨I, m, h3, h4, by rw [ht0]; exact .d _ _ (.tup _ _ rfl (by simp))⟩
      · exact hob.elim
    · rename_i hcal
      try simp only [hcal]
      split at hob
      · rename_i k a k' b hab
        split at hob
        · rename_i hk
          subst hk
          simp only [if_true]
          have hargs : ∃ x y, c.args.toList = [x, y] ∧ ρT x = .d (.int k a) ∧ ρT y = .d (.int k b) := by
            match hl : c.args.toList, hab with
            | [x, y], hab => simp at hab; exact ⟨x, y, rfl, hab.1, hab.2⟩
            | [], hab => simp at hab
            | [x], hab => simp at hab
            | x :: y :: z :: r, hab => simp at hab
          obtain ⟨x, y, hl, h1, h2⟩ := hargs
          have hx := hr x (by simp [ho, Op.operands, Call.operands, hcal]; rw [← Array.mem_toList_iff, hl]; simp)
          have hy := hr y (by simp [ho, Op.operands, Call.operands, hcal]; rw [← Array.mem_toList_iff, hl]; simp)
          rw [h1] at hx; rw [h2] at hy
          have hx := rdD hx; have hy := rdD hy
          generalize hvx : ρ x = vx at hx; generalize hvy : ρ y = vy at hy
          cases hx; cases hy
          have e1 : c.args.map ρ = #[.int k a, .int k b] := by apply Array.toList_inj.1; simp [hl, hvx, hvy]
          refine RSound.val hrel rfl (u := .int k (max a b)) (exec_call_builtin hcal ho (fun k => rfl) ?_) (.d _ _ (.int _ _))
          rw [e1]
          simp only [Builtin.max_, List.foldlM_cons, List.foldlM_nil, Builtin.max2, Sem.run_bind, Sem.run_pure, Result.andThen_ok]
          congr 2
          rw [Int.max_def]; split <;> split <;> omega
        · exact hob.elim
      · exact hob.elim
    · rename_i hcal
      try simp only [hcal]
      split at hob
      · rename_i k a k' b hab
        split at hob
        · rename_i hk
          subst hk
          simp only [if_true]
          have hargs : ∃ x y, c.args.toList = [x, y] ∧ ρT x = .d (.int k a) ∧ ρT y = .d (.int k b) := by
            match hl : c.args.toList, hab with
            | [x, y], hab => simp at hab; exact ⟨x, y, rfl, hab.1, hab.2⟩
            | [], hab => simp at hab
            | [x], hab => simp at hab
            | x :: y :: z :: r, hab => simp at hab
          obtain ⟨x, y, hl, h1, h2⟩ := hargs
          have hx := hr x (by simp [ho, Op.operands, Call.operands, hcal]; rw [← Array.mem_toList_iff, hl]; simp)
          have hy := hr y (by simp [ho, Op.operands, Call.operands, hcal]; rw [← Array.mem_toList_iff, hl]; simp)
          rw [h1] at hx; rw [h2] at hy
          have hx := rdD hx; have hy := rdD hy
          generalize hvx : ρ x = vx at hx; generalize hvy : ρ y = vy at hy
          cases hx; cases hy
          have e1 : c.args.map ρ = #[.int k a, .int k b] := by apply Array.toList_inj.1; simp [hl, hvx, hvy]
          refine RSound.val hrel rfl (u := .int k (min a b)) (exec_call_builtin hcal ho (fun k => rfl) ?_) (.d _ _ (.int _ _))
          rw [e1]
          simp only [Builtin.min_, List.foldlM_cons, List.foldlM_nil, Builtin.min2, Sem.run_bind, Sem.run_pure, Result.andThen_ok]
          congr 2
          rw [Int.min_def]; split <;> split <;> omega
        · exact hob.elim
      · exact hob.elim
    · exact hob.elim
  · -- makeMap
    rename_i t ho
    exact fun h1 h2 => makeMap_ok (L := L) (h1 ▸ hrel) ho h1 h2
  · -- mapUpdate
    rename_i t mm k x ho
    exact put_sound hV.E hrel (.inl ho) hr hob
  · -- insert
    rename_i t mm k x ho
    exact put_sound hV.E hrel (.inr ho) hr hob
  · -- lookup
    rename_i t x k ok ho
    obtain ⟨h1, u, h2, h3⟩ := look_ok (ok := ok) hV.E hrel hc (hr x (by simp [ho, Op.operands])) (hr k (by simp [ho, Op.operands])) hob
    exact RSound.val hrel h1 (by unfold execOp; simp [ho, h2]) h3
  · -- index
    rename_i t x i ho
    obtain ⟨h1, u, h2, h3⟩ := indexS_ok (P := P) (w := w) hV.E (hr x (by simp [ho, Op.operands])) (hr i (by simp [ho, Op.operands])) hob
    exact RSound.val hrel h1 (by unfold execOp; simp [ho, h2]) h3
  · -- convert
    rename_i src t x ho
    obtain ⟨h1, u, w', J, h2, h3, h4, h5⟩ := conv_ok hV.E hrel (hr x (by simp [ho, Op.operands])) hob
    unfold RSound
    rw [h1]
    have hex : (execOp ρ o).run P w = .ok (.value u) w' := by unfold execOp; simp [ho, h2]
    simp only [hex, StepOk]
    exact ⟨J, h3, h4, h5⟩
  · -- makeFunc
    rename_i g first caps ho
    split at hob
    · rename_i hf
      try simp only [if_pos hf]
      have hfe : first = #[] := Array.isEmpty_iff.1 hf
      refine RSound.val hrel rfl (u := .func (.func g) #[] (caps.map ρ)) (by unfold execOp; simp [ho, hfe, Instr.makeFunc]) (cloT_ok (.clo _ _ _ (by simp) fun i v t hv ht => ?_))
      rw [Array.getElem?_map] at hv
      rw [List.getElem?_map] at ht
      cases ha : caps[i]? with
      | none => rw [ha] at hv; cases hv
      | some a =>
        rw [ha] at hv
        have ha' : caps.toList[i]? = some a := by simpa using ha
        rw [ha'] at ht
        simp at hv ht; subst hv; subst ht
        exact hr a (by simp [ho, Op.operands, hfe]; exact Array.mem_of_getElem? ha)
    · exact hob.elim
  · -- range
    rename_i t x ho
    exact range_ok hV.E hrel ho (hr x (by simp [ho, Op.operands])) hob
  · -- entry
    rename_i x ho
    exact entry_ok hrel hc ho (hr x (by simp [ho, Op.operands])) hob
  · -- makeSlice
    rename_i t a b ho
    obtain ⟨l', hl'⟩ := makeT_eff hob
    unfold RSound
    rw [hl']
    rintro rfl rfl
    obtain ⟨l'', w', v, m', h1, h2, h3, h4, h5⟩ := makeT_ok (t := t) hV.E hrel (hr a (by simp [ho, Op.operands])) (hr b (by simp [ho, Op.operands])) hob
    rw [hl'] at h1; injection h1 with h1; subst h1
    have hex : (execOp ρ o).run P w = .ok (.value v) w' := by unfold execOp; simp [ho, h2]
    simp only [hex, StepOk]
    exact ⟨I, m', h3, h4, h5⟩
  · exact hob.elim
theorem evalOp_nd {V : Env} {ρT : Operand → T} {l : List AO} {nid : Nat} {o : Oper} (hob : (evalOp V ρT l nid o).ob) : ∀ c, o.op ≠ .defer c := by
  intro c hc
  obtain ⟨dst, op, ty, pos, aft, g⟩ := o
  simp only at hc
  subst hc
  simp only [evalOp, R.bad] at hob
theorem cloOf_nd {E : TEnv} {ρT : Operand → T} {o : Oper} {x : FuncId × List T} (h : cloOf E ρT o = some x) : ∀ c, o.op ≠ .defer c := by
  intro c hc
  unfold cloOf at h
  rw [hc] at h; cases h
end
end Go.Eva
namespace Go.Eva
open Go Go.RowKit
variable [Drw] [Rnd]
abbrev PC := List (Nat × Bool × Bool)
def subL (pc' pc : PC) : Bool := pc'.all fun x => pc.any fun y => x.1 == y.1 && x.2.2 == y.2.2
def subP : PC → PC → Prop
  | [], _ => True
  | x :: r, pc => (match pc.find? (fun y => x.1 == y.1 && x.2.2 == y.2.2) with | some y => x.2.1 = y.2.1 | none => False) ∧ subP r pc
def strip (pc : PC) (t : T) : T × Prop :=
  match t with
  | .cond pc' u => if subL pc' pc = true then (u, subP pc' pc) else (t, True)
  | t => (t, True)
theorem holds_mem : ∀ {pc : PC}, holds pc → ∀ y ∈ pc, y.2.1 = y.2.2
  | [], _, y, hy => by cases hy
  | (_, c, b) :: r, h, y, hy => by
    rcases List.mem_cons.1 hy with rfl | hy
    · exact h.1
    · exact holds_mem h.2 y hy
theorem subP_holds : ∀ {pc' pc : PC}, subP pc' pc → holds pc → holds pc'
  | [], _, _, _ => trivial
  | (j, c, b) :: r, pc, h, hp => by
    obtain ⟨h1, h2⟩ := h
    refine ⟨?_, subP_holds h2 hp⟩
    split at h1
    · rename_i y hy
      have h3 := List.find?_some hy
      simp only [Bool.and_eq_true, beq_iff_eq] at h3
      have := holds_mem hp y (List.mem_of_find?_eq_some hy)
      simp only at h1
      rw [h1, this, ← h3.2]
    · exact h1.elim
theorem holds_append : ∀ {a b : PC}, holds (a ++ b) ↔ holds a ∧ holds b
  | [], b => by simp [holds]
  | (_, c, d) :: r, b => by simp only [List.cons_append, holds, holds_append (a := r), and_assoc]
def guardPc (ops : List Oper) (s : Tm) : Option (Nat × Bool) → Option PC
  | none => some []
  | some (j, b) => match (ops[j]?).bind (·.dst) with
    | some d => match get s d with
      | .d (.bool c) => some [(j, c, b)]
      | .cond pc (.d (.bool c)) => some (pc ++ [(j, c, b)])
      | .cond [(0, true, false)] .undef => some [(0, true, false)]
      | _ => none
    | none => none
def obAll : List Prop → Prop
  | [] => True
  | p :: r => p ∧ obAll r
theorem obAll_mem : ∀ {l : List Prop}, obAll l → ∀ p ∈ l, p
  | [], _, p, hp => by cases hp
  | q :: r, h, p, hp => by
    rcases List.mem_cons.1 hp with rfl | hp
    · exact h.1
    · exact obAll_mem h.2 p hp
def dstOk (n : Nat) : Option Nat → Bool
  | none => true
  | some d => decide (d < n)
def after (s : St) (dst : Option Nat) (pc : PC) (r : R) : Option St :=
  match pc, r.eff with
  | [], .none => some ⟨putT s.t dst r.t, s.l⟩
  | [], .new a => some ⟨putT s.t dst r.t, s.l ++ [a]⟩
  | [], .upd l' => some ⟨putT s.t dst r.t, l'⟩
  | pc, .none => some ⟨putT s.t dst (.cond pc r.t), s.l⟩
  | _, _ => none
def opRes (V : Env) (pc : PC) (s : St) (o : Oper) : R :=
  match pc with
  | [] => evalOp V (evT s.t) s.l s.l.length o
  | _ :: _ =>
    let ρ := fun x => strip pc (evT s.t x)
    let r := evalOp V (fun x => (ρ x).1) s.l s.l.length o
    ⟨r.t, r.eff, r.ob ∧ obAll (o.op.operands.toList.map fun x => (ρ x).2)⟩
def stepT (pc : PC) (s : Tm) (x : Operand) : T := match pc with | [] => evT s x | _ :: _ => (strip pc (evT s x)).1
def gone : T := .cond [(0, true, false)] .undef
theorem gone_rd {I : Imm} {m : Nat → Value} {l : List AO} : RdT I m l Go.undef gone := .cond _ _ _ (fun h => by simp [holds] at h) (fun _ => rfl)
abbrev Way := Option (List Nat)
def skips (sk : List Nat) (dst : Option Nat) : Bool := match dst with | some d => sk.contains d | none => false
def evalSeq (V : Env) (n : Nat) (ops : List Oper) (md : Way) : List Oper → St → (St → Prop) → Prop
  | [], s, K => K s
  | o :: r, s, K =>
    match guardPc ops s.t o.guard with
    | none => False
    | some pc =>
      match md with
      | none =>
        (match opRes V pc s o with
        | ⟨t, eff, ob⟩ => (holds pc → ob) ∧ dstOk n o.dst = true ∧ match after s o.dst pc ⟨t, eff, True⟩ with | some s' => evalSeq V n ops md r s' K | none => False)
      | some sk =>
        if skips sk o.dst = true then (holds pc → False) ∧ dstOk n o.dst = true ∧ evalSeq V n ops md r ⟨putT s.t o.dst gone, s.l⟩ K
        else holds pc ∧ (match opRes V [] s o with
        | ⟨t, eff, ob⟩ => ob ∧ dstOk n o.dst = true ∧ match after s o.dst [] ⟨t, eff, True⟩ with | some s' => evalSeq V n ops md r s' K | none => False)
theorem evalSeq_mono {V : Env} {n : Nat} {ops : List Oper} {md : Way} {K K' : St → Prop} (hk : ∀ s, K s → K' s) : ∀ (r : List Oper) (s : St), evalSeq V n ops md r s K → evalSeq V n ops md r s K'
  | [], s, h => hk s h
  | o :: r, s, h => by
    simp only [evalSeq] at h ⊢
    split at h
    · exact h
    · cases md with
      | none =>
        obtain ⟨h1, h2, h3⟩ := h
        refine ⟨h1, h2, ?_⟩
        split at h3
        · exact evalSeq_mono hk r _ h3
        · exact h3
      | some sk =>
        simp only at h ⊢
        split at h
        · rename_i hsk
          rw [if_pos hsk]
          exact ⟨h.1, h.2.1, evalSeq_mono hk r _ h.2.2⟩
        · rename_i hsk
          rw [if_neg hsk]
          obtain ⟨h0, h1, h2, h3⟩ := h
          refine ⟨h0, h1, h2, ?_⟩
          split at h3
          · exact evalSeq_mono hk r _ h3
          · exact h3
def mark (D : Nat) : Deferred := { target := .collected D, args := #[] }
def Dfs (B : Nat) (I : Imm) (ds : List Deferred) : Prop := ∃ Ds : List Nat, ds = Ds.map mark ∧ Ds.Nodup ∧ (∀ D ∈ Ds, B ≤ D ∧ ¬ Rnd.keep D ∧ I.df D) ∧ ∀ b, Rnd.keep b → I.df b
theorem Dfs.mono' {B : Nat} {I J : Imm} {ds : List Deferred} (h : Dfs B I ds) (hl : ∀ b, I.df b → J.df b) : Dfs B J ds := by
  obtain ⟨Ds, h1, h2, h3, h4⟩ := h
  exact ⟨Ds, h1, h2, fun D hD => ⟨(h3 D hD).1, (h3 D hD).2.1, hl _ (h3 D hD).2.2⟩, fun b hb => hl _ (h4 b hb)⟩
theorem Dfs.mono {B : Nat} {I J : Imm} {ds : List Deferred} (h : Dfs B I ds) (hl : I.le J) : Dfs B J ds := h.mono' hl.df
theorem Dfs.nil {B : Nat} {I : Imm} (h : ∀ b, Rnd.keep b → I.df b) : Dfs B I [] := ⟨[], rfl, .nil, by simp, h⟩
theorem Dfs.put' {B : Nat} {I J : Imm} {a : Act} {dst : Option Nat} {v : Value} (h : Dfs B I a.defers) (hl : ∀ b, I.df b → J.df b) : Dfs B J (a.put dst v).defers := by
  have : (a.put dst v).defers = a.defers := by cases dst <;> rfl
  rw [this]; exact h.mono' hl
theorem Dfs.put {B : Nat} {I J : Imm} {a : Act} {dst : Option Nat} {v : Value} (h : Dfs B I a.defers) (hl : I.le J) : Dfs B J (a.put dst v).defers := h.put' hl.df
theorem Dfs.cons {B : Nat} {I J : Imm} {ds : List Deferred} {D : Nat} (h : Dfs B I ds) (hl : ∀ b, I.df b → J.df b) (hB : B ≤ D) (hI : ¬ I.df D) (hJ : J.df D) : Dfs B J (mark D :: ds) := by
  obtain ⟨Ds, h1, h2, h3, h4⟩ := h
  refine ⟨D :: Ds, by rw [h1]; rfl, List.nodup_cons.2 ⟨fun hm => hI (h3 D hm).2.2, h2⟩, fun x hx => ?_, fun b hb => hl _ (h4 b hb)⟩
  rcases List.mem_cons.1 hx with rfl | hx
  · exact ⟨hB, fun hk => hI (h4 _ hk), hJ⟩
  · exact ⟨(h3 x hx).1, (h3 x hx).2.1, hl _ (h3 x hx).2.2⟩
structure Rel (w0 : World) (I0 : Imm) (n : Nat) (s : St) (a : Act) (w : World) : Prop where
  size : a.tmps.size = n
  rel : ∃ I m, WRel w0 I0 w I m s.l ∧ Dfs w0.heap.size I a.defers ∧ ∀ k, RdT I m s.l (a.tmps.getD k undef) (get s.t k)
section
variable {P : Program} {V : Env} {w0 w : World} {I0 I : Imm} {m : Nat → Value} {l L : List AO} {n : Nat}
theorem constT_ok (v : Value) : RdT I m L v (constT v) := by
  unfold constT
  split
  · exact .d _ _ (.bool _)
  · exact .d _ _ (.int _ _)
  · exact .d _ _ (.str _)
  · exact .nils _
  · exact .d _ _ .nilp
  · exact .d _ _ .map0
  · exact .d _ _ .nilfn
  · exact .d _ _ .nilif
  · exact .undef _
theorem globT_ok {s : Tm} {a : Act} (hg : ∀ g d, Drw.dat g = some d → Rd I (.pointer (some ⟨g, 0, none⟩)) (.box d)) (g : Nat) : RdT I m L (a.eval (.global g)) (evT s (.global g)) := by
  show RdT I m L (.pointer (some ⟨g, 0, none⟩)) (match Drw.dat g with | some d => .eptr d.cells.length [d] 0 0 | none => .undef)
  cases hd : Drw.dat g with
  | none => exact .undef _
  | some d =>
    have := hg g d hd
    cases this with
    | box _ _ val h1 h2 h3 =>
      have := RdT.eptr (I := I) (m := m) (l := L) g 0 d.cells.length [d] 0 0 val (by simp) (fun x hx => by simp at hx; subst hx; exact ⟨rfl, h1⟩) (fun j hj => by rw [Nat.zero_add]; exact h2 j (by simpa using hj)) (fun j x hx => h3 j x (by simpa [flat] using hx))
      simpa using this
theorem evT_ok {s : Tm} {a : Act} (hg : ∀ g d, Drw.dat g = some d → Rd I (.pointer (some ⟨g, 0, none⟩)) (.box d)) (h : ∀ k, RdT I m L (a.tmps.getD k undef) (get s k)) (x : Operand) : RdT I m L (a.eval x) (evT s x) := by
  cases x with
  | tmp t => exact h t
  | const v => exact constT_ok v
  | global g => exact globT_ok hg g
  | func f => exact .d _ _ (.fn f)
theorem strip_ok {pc : PC} {v : Value} {t : T} (h : RdT I m L v t) (hp : holds pc) (hob : (strip pc t).2) : RdT I m L v (strip pc t).1 := by
  unfold strip at hob ⊢
  split at hob
  · rename_i pc' u
    split at hob
    · rename_i hs
      simp only [if_pos hs]
      exact rdCond h (subP_holds hob hp)
    · rename_i hs
      simp only [if_neg hs]
      exact h
  · exact h
theorem get_put (s : Tm) (d : Nat) (t : T) (k : Nat) : get ((d, t) :: s) k = if d = k then t else get s k := rfl
theorem putT_ok {s : Tm} {a : Act} {dst : Option Nat} {v : Value} {t : T} (hsz : a.tmps.size = n) (hd : dstOk n dst = true) (h : ∀ k, RdT I m L (a.tmps.getD k undef) (get s k)) (hv : RdT I m L v t) :
    ∀ k, RdT I m L ((a.put dst v).tmps.getD k undef) (get (putT s dst t) k) := by
  intro k
  cases dst with
  | none => exact h k
  | some d =>
    simp only [dstOk, decide_eq_true_eq] at hd
    simp only [putT, get_put, Act.put]
    by_cases hk : d = k
    · subst hk
      rw [if_pos rfl]
      have : (a.tmps.setIfInBounds d v).getD d undef = v := by simp [Array.getD_eq_getD_getElem?, hsz, hd]
      rw [this]; exact hv
    · rw [if_neg hk]
      have : (a.tmps.setIfInBounds d v).getD k undef = a.tmps.getD k undef := by simp [Array.getD_eq_getD_getElem?, hk]
      rw [this]; exact h k
theorem wanted_ok' {ops : List Oper} {s : Tm} {a : Act} {o : Oper} {pc : PC} (h : ∀ j b d, o.guard = some (j, b) → (ops[j]?).bind (·.dst) = some d → RdT I m L (a.tmps.getD d undef) (get s d)) (hg : guardPc ops s o.guard = some pc) : Region.wanted o (yielded ops.toArray a.tmps) = true ↔ holds pc := by
  cases hgd : o.guard with
  | none => rw [hgd] at hg; simp [guardPc] at hg; subst hg; simp [Region.wanted, hgd, holds]
  | some jb =>
    obtain ⟨j, b⟩ := jb
    rw [hgd] at hg
    simp only [guardPc] at hg
    split at hg
    · rename_i d hd
      have hy : yielded ops.toArray a.tmps j = match a.tmps[d]? with | some (.bool c) => some c | _ => none := by
        unfold yielded
        have : ((ops.toArray[j]?).bind (·.dst)) = some d := by simpa using hd
        rw [this]; rfl
      have hgetD : ∀ v, a.tmps.getD d undef = v → v ≠ undef → a.tmps[d]? = some v := by
        intro v hv hne
        rw [Array.getD_eq_getD_getElem?] at hv
        cases hx : a.tmps[d]? with
        | none => rw [hx] at hv; exact absurd hv.symm hne
        | some u => rw [hx] at hv; simp at hv; rw [hv]
      have hk := h j b d hgd hd
      simp only [Region.wanted, hgd, hy, beq_iff_eq]
      split at hg
      · rename_i c hc
        simp at hg; subst hg
        rw [hc] at hk
        have := rdD hk
        generalize hv : a.tmps.getD d undef = v at this
        cases this
        rw [hgetD _ hv (by unfold undef; simp)]
        simp [holds]
      · rename_i pc' c hc
        simp at hg; subst hg
        rw [hc] at hk
        generalize hv : a.tmps.getD d undef = v at hk
        cases hk with
        | cond _ _ _ h1 h2 =>
          rw [holds_append]
          by_cases hp : holds pc'
          · have := rdD (h1 hp)
            cases this
            rw [hgetD _ hv (by unfold undef; simp)]
            simp [holds, hp]
          · have hvu := h2 hp
            subst hvu
            constructor
            · intro hh
              exfalso
              split at hh
              · rename_i c' hc'
                rw [Array.getD_eq_getD_getElem?, hc'] at hv
                simp [undef] at hv
              · cases hh
            · rintro ⟨h, _⟩; exact absurd h hp
      · rename_i hc
        simp at hg; subst hg
        rw [hc] at hk
        generalize hv : a.tmps.getD d undef = v at hk
        cases hk with
        | cond _ _ _ h1 h2 =>
          have hvu := h2 (by simp [holds])
          subst hvu
          constructor
          · intro hh
            exfalso
            split at hh
            · rename_i c' hc'
              rw [Array.getD_eq_getD_getElem?, hc'] at hv
              simp [undef] at hv
            · cases hh
          · intro hh; simp [holds] at hh
      · cases hg
    · cases hg
theorem wanted_ok {ops : List Oper} {s : Tm} {a : Act} {o : Oper} {pc : PC} (h : ∀ k, RdT I m L (a.tmps.getD k undef) (get s k)) (hg : guardPc ops s o.guard = some pc) : Region.wanted o (yielded ops.toArray a.tmps) = true ↔ holds pc :=
  wanted_ok' (fun _ _ d _ _ => h d) hg
theorem opStep (hV : VOk P V) {ops : List Oper} {Q : Exit → Act → World → Prop} {o : Oper} {pc qc : PC} {s s' : St} {a : Act} {w : World} (hrel : Rel w0 I0 n s a w) (hg : guardPc ops s.t o.guard = some qc) (hq : holds qc ↔ holds pc) (hob : holds pc → (opRes V pc s o).ob) (hdst : dstOk n o.dst = true) {t : T} {eff : Eff} (hR : (opRes V pc s o).t = t ∧ (opRes V pc s o).eff = eff) (hs' : after s o.dst pc ⟨t, eff, True⟩ = some s') {Kn : Act → World → Prop}
    (hK : ∀ a' w', Rel w0 I0 n s' a' w' → Kn a' w') :
    if Region.wanted o (yielded ops.toArray a.tmps) = true then o.wpIn RnF 0 P a w Kn Q else (∀ f, o.about P w a.eval = some f → RnF.fn f) ∧ Kn (a.put o.dst undef) w := by
    obtain ⟨hsz, I, m, hw, hdf, ht⟩ := hrel
    obtain ⟨rfl, rfl⟩ := hR
    have hwant := (wanted_ok ht hg).trans hq
    by_cases hp : holds pc
    · rw [if_pos (hwant.2 hp)]
      have hob := hob hp
      have hops : ∀ x ∈ o.op.operands, RdT I m s.l (a.eval x) (stepT pc s.t x) := fun x hx => by
        cases pc with
        | nil => exact evT_ok hw.sat.glob ht x
        | cons y pc => exact strip_ok (evT_ok hw.sat.glob ht x) hp (obAll_mem hob.2 _ (List.mem_map.2 ⟨x, by simpa using hx, rfl⟩))
      have hres : (opRes V pc s o).t = (evalOp V (stepT pc s.t) s.l s.l.length o).t ∧ (opRes V pc s o).eff = (evalOp V (stepT pc s.t) s.l s.l.length o).eff ∧ ((opRes V pc s o).ob → (evalOp V (stepT pc s.t) s.l s.l.length o).ob) := by
        cases pc with
        | nil => exact ⟨rfl, rfl, id⟩
        | cons y pc => exact ⟨rfl, rfl, fun h => h.1⟩
      obtain ⟨hr1, hr2, hr3⟩ := hres
      have hob1 := hr3 hob
      clear hob hr3
      have hobx := hob1
      clear hob1
      rw [hr1, hr2] at hs'
      clear hr1 hr2
      have hnd := evalOp_nd hobx
      generalize hr : evalOp V (stepT pc s.t) s.l s.l.length o = res at *
      cases heff : res.eff with
      | none =>
        have hs := evalOp_sound (nid := s.l.length) hV hw (Com.refl _) hops (by rw [hr]; exact hobx)
        rw [hr] at hs
        unfold RSound at hs
        rw [heff] at hs
        refine StepOk.wpIn hnd (hs.mono fun v w' ⟨J, hle, hw', hv⟩ => ?_)
        have hs'' : s' = ⟨putT s.t o.dst (if pc = [] then res.t else .cond pc res.t), s.l⟩ := by
          unfold after at hs'
          simp only [heff] at hs'
          cases pc <;> simp at hs' <;> simp [← hs']
        subst hs''
        refine hK _ _ ⟨by cases o.dst <;> simp [Act.put, hsz], J, m, hw', hdf.put hle.imm, putT_ok hsz hdst (fun k => (ht k).mono hle) ?_⟩
        split
        · exact hv
        · exact .cond _ _ _ (fun _ => hv) (fun hn => absurd hp hn)
      | new x =>
        have hpc : pc = [] := by
          unfold after at hs'; simp only [heff] at hs'
          cases pc <;> simp at hs'; rfl
        subst hpc
        have hs'' : s' = ⟨putT s.t o.dst res.t, s.l ++ [x]⟩ := by
          unfold after at hs'; simp only [heff] at hs'; simp at hs'; exact hs'.symm
        subst hs''
        obtain ⟨hw2, hle2⟩ := hw.push
        have hs := evalOp_sound (nid := s.l.length) hV hw2 (L := s.l ++ [.dead]) (fun id hid => List.getElem?_append_left hid) (fun x hx => (hops x hx).mono hle2) (by rw [hr]; exact hobx)
        rw [hr] at hs
        unfold RSound at hs
        rw [heff] at hs
        refine StepOk.wpIn hnd ((hs (by simp)).mono fun v w' ⟨m', hle, hw', hv⟩ => ?_)
        have hset : (s.l ++ [AO.dead]).set s.l.length x = s.l ++ [x] := by simp
        rw [hset] at hle hw' hv
        exact hK _ _ ⟨by cases o.dst <;> simp [Act.put, hsz], I, m', hw', hdf.put (.refl I), putT_ok hsz hdst (fun k => (ht k).mono (hle2.trans hle)) hv⟩
      | upd l' =>
        have hpc : pc = [] := by
          unfold after at hs'; simp only [heff] at hs'
          cases pc <;> simp at hs'; rfl
        subst hpc
        have hs'' : s' = ⟨putT s.t o.dst res.t, l'⟩ := by
          unfold after at hs'; simp only [heff] at hs'; simp at hs'; exact hs'.symm
        subst hs''
        have hs := evalOp_sound (nid := s.l.length) hV hw (Com.refl _) hops (by rw [hr]; exact hobx)
        rw [hr] at hs
        unfold RSound at hs
        rw [heff] at hs
        refine StepOk.wpIn hnd ((hs rfl rfl).mono fun v w' ⟨J, m', hle, hw', hv⟩ => ?_)
        exact hK _ _ ⟨by cases o.dst <;> simp [Act.put, hsz], J, m', hw', hdf.put hle.imm, putT_ok hsz hdst (fun k => (ht k).mono hle) hv⟩
    · rw [if_neg (fun hh => hp (hwant.1 hh))]
      have hpc : pc ≠ [] := by rintro rfl; exact hp trivial
      have heff : (opRes V pc s o).eff = .none := by
        unfold after at hs'
        generalize (opRes V pc s o).eff = e at *
        cases pc with
        | nil => exact absurd rfl hpc
        | cons x pc => cases e <;> simp at hs' <;> rfl
      have hs'' : s' = ⟨putT s.t o.dst (.cond pc (opRes V pc s o).t), s.l⟩ := by
        unfold after at hs'
        simp only [heff] at hs'
        cases pc with
        | nil => exact absurd rfl hpc
        | cons x pc => simp at hs'; exact hs'.symm
      subst hs''
      exact ⟨fun f _ => RnF_fn f, hK _ _ ⟨by cases o.dst <;> simp [Act.put, hsz], I, m, hw, hdf.put (.refl I), putT_ok hsz hdst ht (.cond _ _ _ (fun h => absurd h hp) (fun _ => rfl))⟩⟩
theorem evalSeq_step (hV : VOk P V) {ops : List Oper} {md : Way} {Q : Exit → Act → World → Prop} {K : St → Prop} {o : Oper} {r : List Oper} {s : St} {a : Act} {w : World} (hrel : Rel w0 I0 n s a w) (h : evalSeq V n ops md (o :: r) s K) {Kn : Act → World → Prop}
    (hK : ∀ s' a' w', evalSeq V n ops md r s' K → Rel w0 I0 n s' a' w' → Kn a' w') :
    if Region.wanted o (yielded ops.toArray a.tmps) = true then o.wpIn RnF 0 P a w Kn Q else (∀ f, o.about P w a.eval = some f → RnF.fn f) ∧ Kn (a.put o.dst undef) w := by
    simp only [evalSeq] at h
    split at h
    · exact h.elim
    · rename_i qc hg
      cases md with
      | none =>
        simp only at h
        obtain ⟨hob, hdst, h⟩ := h
        split at h
        · rename_i s' hs'
          exact opStep hV hrel hg Iff.rfl hob hdst ⟨rfl, rfl⟩ hs' fun a' w' hr => hK s' a' w' h hr
        · exact h.elim
      | some sk =>
        simp only at h
        split at h
        · obtain ⟨hno, hdst, h⟩ := h
          obtain ⟨hsz, I, m, hw, hdf, ht⟩ := hrel
          rw [if_neg (fun hh => hno ((wanted_ok ht hg).1 hh))]
          exact ⟨fun f _ => RnF_fn f, hK _ _ _ h ⟨by cases o.dst <;> simp [Act.put, hsz], I, m, hw, hdf.put (.refl I), putT_ok hsz hdst ht gone_rd⟩⟩
        · obtain ⟨hyes, hob, hdst, h⟩ := h
          split at h
          · rename_i s' hs'
            exact opStep hV hrel hg (pc := []) ⟨fun _ => trivial, fun _ => hyes⟩ (fun _ => hob) hdst ⟨rfl, rfl⟩ hs' fun a' w' hr => hK s' a' w' h hr
          · exact h.elim
theorem evalSeq_ok (hV : VOk P V) {ops : List Oper} {md : Way} {Q : Exit → Act → World → Prop} {K : St → Prop} (hK : ∀ s a w, K s → Rel w0 I0 n s a w → Q .normal a w) : ∀ (r : List Oper) (s : St) (a : Act) (w : World), Rel w0 I0 n s a w → evalSeq V n ops md r s K → wpListIn RnF 0 P ops.toArray Q r a w
  | [], s, a, w, hrel, h => hK s a w h hrel
  | o :: r, s, a, w, hrel, h => by
    unfold wpListIn
    exact evalSeq_step hV hrel h fun s' a' w' h' hr' => evalSeq_ok hV hK r s' a' w' hr' h'
end
end Go.Eva
