import Derived.WalkKit
import Derived.WalkSpells
import Derived.WalkLawsBesides
import Derived.Maps.AppendAt
import Derived.Deep.AppendLies
import Derived.Deep.MidRow
import Derived.Deep.Quiet
import Derived.Great.BuildSlice
import Derived.OrdersIn
import Derived.TacticsIn
import Derived.RangeFuncCalls
import Derived.Sort.LoopGhostIn
set_option linter.all false
namespace Go.aj
open Go Go.RowKit
inductive D where
 | bool (b:Bool)
 | int (k:IntKind) (n:Int)
 | str (s:ByteArray)
 | agg (cs:List D)
 | slice (size:Nat) (els:List D)
 | fn (f:FuncId)
 | aG
 | map (ks vs:List D)
 | eY
 | iface (t:TypeId) (d:D)
 | qf
 | aI (ds:List D)
 | aL (f:FuncId) (cV:List D)
 | box (d:D)
 deriving Inhabited
def D.cells:D→List D
 | .agg cs=>cs
 | d=>[d]
def D.one:D→Bool
 | .agg _=>false
 | .aI _=>false
 | _=>true
def flat (els:List D):List D:=els.flatMap D.cells
abbrev ME:=Array MapEntry×Nat
structure aw where
 cell:Nat→Nat→Option Value
 mp:Nat→Option ME
 df:Nat→Prop
structure aw.le (I J:aw):Prop where
 cell:∀ b o v,I.cell b o=some v→J.cell b o=some v
 mp:∀ b es,I.mp b=some es→J.mp b=some es
 df:∀ b,I.df b→J.df b
theorem aw.le.refl (I:aw):I.le I:=⟨fun _ _ _ h=>h,fun _ _ h=>h,fun _ h=>h⟩
theorem aw.le.trans {I J K:aw} (h:I.le J) (k:J.le K):I.le K:=⟨fun _ _ _ x=>k.cell _ _ _ (h.cell _ _ _ x),fun _ _ x=>k.mp _ _ (h.mp _ _ x),fun _ x=>k.df _ (h.df _ x)⟩
inductive Rd (I:aw):Value→D→Prop
 | bool (b):Rd I (.bool b) (.bool b)
 | int (k n):Rd I (.int k n) (.int k n)
 | str (s):Rd I (.string s) (.str s)
 | agg (cs:Array Value) (ds:List D):cs.size=ds.length→(∀ d∈ds,d.one=true)→(∀ (i:Nat) v d,cs[i]?=some v→ds[i]?=some d→Rd I v d)→Rd I (.agg cs) (.agg ds)
 | lh (A c size):c≤maxLen→Rd I (.slice A 0 c) (.slice size [])
 | slice (b off n c size:Nat) (els:List D) (val:Nat→Value):els.length=n→n≤c→c≤maxLen→(∀ d∈els,d.cells.length=size∧∀ x∈d.cells,x.one=true) →
   (∀ k,k < n*size→I.cell b (off+k)=some (val k))→(∀ (k:Nat) x,(flat els)[k]?=some x→Rd I (val k) x)→Rd I (.slice (some ⟨b,off,none⟩) n c) (.slice size els)
 | fn (f):Rd I (.func (.func f) #[] #[]) (.fn f)
 | aG:Rd I .nilFunc .aG
 | tj:Rd I (.map none) (.map [] [])
 | map (b:Nat) (es:ME) (ks vs:List D):I.mp b=some es→es.1.size=ks.length→es.1.size=vs.length→(∀ (i:Nat) (e:MapEntry) (d:D),es.1[i]?=some e→ks[i]?=some d→Rd I e.key d)→(∀ (i:Nat) (e:MapEntry) (d:D),es.1[i]?=some e→vs[i]?=some d→Rd I e.val d)→Rd I (.map (some b)) (.map ks vs)
 | eY:Rd I (.pointer none) .eY
 | iface (t v d):Rd I v d→Rd I (.iface t v) (.iface t d)
 | qf:Rd I .nilIface .qf
 | aI (vs:Array Value) (ds:List D):vs.size=ds.length→(∀ (i:Nat) v d,vs[i]?=some v→ds[i]?=some d→Rd I v d)→Rd I (.tuple vs) (.aI ds)
 | aL (f) (vs:Array Value) (ds:List D):vs.size=ds.length→(∀ (i:Nat) v d,vs[i]?=some v→ds[i]?=some d→Rd I v d)→Rd I (.func (.func f) #[] vs) (.aL f ds)
 | box (b:Nat) (d:D) (val:Nat→Value):(∀ x∈d.cells,x.one=true)→(∀ k,k < d.cells.length→I.cell b k=some (val k))→(∀ (k:Nat) x,d.cells[k]?=some x→Rd I (val k) x)→Rd I (.pointer (some ⟨b,0,none⟩)) (.box d)
theorem Rd.vQ {I J:aw} (hc:∀ b o v,I.cell b o=some v→J.cell b o=some v) (hm:∀ b es,I.mp b=some es→J.mp b=some es) {v:Value} {d:D} (r:Rd I v d):Rd J v d:=by
 induction r with
 | bool b=>exact .bool b
 | int k n=>exact .int k n
 | str s=>exact .str s
 | agg cs ds h1 h2 _ ih=>exact .agg cs ds h1 h2 ih
 | lh A c size h=>exact .lh A c size h
 | slice b off n c size els val h1 h2 h3 h4 h5 _ ih=>exact .slice b off n c size els val h1 h2 h3 h4 (fun k hk=>hc _ _ _ (h5 k hk)) ih
 | fn f=>exact .fn f
 | aG=>exact .aG
 | tj=>exact .tj
 | map b es ks vs h1 h2 h3 _ _ sZ KW=>exact .map b es ks vs (hm _ _ h1) h2 h3 sZ KW
 | eY=>exact .eY
 | iface t v d _ ih=>exact .iface t v d ih
 | qf=>exact .qf
 | aI vs ds h1 _ ih=>exact .aI vs ds h1 ih
 | aL f vs ds h1 _ ih=>exact .aL f vs ds h1 ih
 | box b d val h1 h2 _ ih=>exact .box b d val h1 (fun k hk=>hc _ _ _ (h2 k hk)) ih
theorem Rd.mono {I J:aw} (h:I.le J) {v:Value} {d:D} (r:Rd I v d):Rd J v d:=r.vQ h.cell h.mp
theorem Rd.one {I:aw} {v:Value} {d:D} (h:Rd I v d) (hd:d.one=true):v.oneCell'=true:=by
 cases h<;>simp_all [D.one,Value.oneCell']
theorem Rd.cells {I:aw} {v:Value} {d:D} (h:Rd I v d) (ht:∀ ds,d ≠ .aI ds):v.cells.size=d.cells.length∧(∀ x∈d.cells,x.one=true)∧∀ (i:Nat) x y,v.cells[i]?=some x→d.cells[i]?=some y→Rd I x y:=by
 cases h with
 | agg cs ds h1 h2 h3=>exact⟨h1,h2,h3⟩
 | aI vs ds h1 h2=>exact absurd rfl (ht ds)
 | _=>
  refine⟨by simp[Value.cells,D.cells],by simp[D.cells,D.one],fun i x y hx hy=>?_⟩
  simp only[Value.cells,D.cells] at hx hy
  rcases i with _ | i
  ·simp at hx hy
   subst hx;subst hy
   constructor<;>assumption
  simp at hx
inductive T where
 | undef
 | d (x:D)
 | bC (size:Nat)
 | ptr (id off:Nat)
 | bw (size:Nat) (els:List D) (k off:Nat)
 | row (id:Nat)
 | bf (id k off:Nat)
 | map (id:Nat)
 | aI (ts:List T)
 | cond (pc:List (Nat×Bool×Bool)) (t:T)
 | aL (f:FuncId) (ts:List T)
 | bd (id:Nat)
 | agg (ts:List T)
 | sub (id lo hi:Nat)
 | bD (id:Nat) (x:D)
 | bL (id n:Nat)
 deriving Inhabited
abbrev Tm:=List (Nat×T)
def get:Tm→Nat→T
 | [],_=> .undef
 | (i,t)::r,k=>if i=k then t else get r k
def aY (s:Tm) (dst:Option Nat) (t:T):Tm:=match dst with | some d=>(d,t)::s | none=>s
inductive AO where
 | dead
 | var (ty:TypeId) (cs:List T)
 | row (e size:Nat) (els:List D)
 | bx (e size:Nat) (els:List D)
 | map (ks vs:List D)
 | eP (ks vs:List D)
 | iter (ks vs:List D) (done:List Nat)
 | frame (base:Nat) (vals:Nat→Value) (t:Tm)
 | loop (base n:Nat) (ps:Array Tmp) (bp body:Code) (t:Tm) (st:LoopState) (eu:Option Code)
 deriving Inhabited
def AO.isVar:AO→Bool | .var .. =>true | .iter .. =>true | .frame .. =>true | .loop .. =>true | _=>false
def AO.isRow:AO→Bool | .row .. =>true | .bx .. =>true | .map .. =>true | .eP .. =>true | _=>false
def isVar (l:List AO) (id:Nat):Bool:=((l[id]?).map AO.isVar).getD false
def isRow (l:List AO) (id:Nat):Bool:=((l[id]?).map AO.isRow).getD false
def holds:List (Nat×Bool×Bool)→Prop
 | []=>True
 | (_,c,b)::r=>c=b∧holds r
inductive aq (I:aw) (m:Nat→Value) (l:List AO):Value→T→Prop
 | undef (v):aq I m l v .undef
 | d (v x):Rd I v x→aq I m l v (.d x)
 | bC (size):aq I m l (.slice none 0 0) (.bC size)
 | ptr (id b off):isVar l id=true→m id = .pointer (some ⟨b,0,none⟩)→aq I m l (.pointer (some ⟨b,off,none⟩)) (.ptr id off)
 | bw (b o size els k off) (val:Nat→Value):k < els.length→(∀ d∈els,d.cells.length=size∧∀ x∈d.cells,x.one=true) →
   (∀ j,j < els.length*size→I.cell b (o+j)=some (val j))→(∀ (j:Nat) x,(flat els)[j]?=some x→Rd I (val j) x)→aq I m l (.pointer (some ⟨b,o+k*size+off,none⟩)) (.bw size els k off)
 | row (A:Option Addr) (n c id:Nat):id < l.length→(isRow l id=true→m id = .slice A n c)→aq I m l (.slice A n c) (.row id)
 | bf (a:Addr) (id k off):id < l.length→(∀ e size els,(l[id]?=some (.row e size els)∨l[id]?=some (.bx e size els))→∃ b n c,m id = .slice (some ⟨b,0,none⟩) n c∧a=⟨b,k*size+off,none⟩)→aq I m l (.pointer (some a)) (.bf id k off)
 | map (r:Option Nat) (id:Nat):id < l.length→(isRow l id=true→m id = .map r)→aq I m l (.map r) (.map id)
 | aI (vs:Array Value) (ts:List T):vs.size=ts.length→(∀ (i:Nat) v t,vs[i]?=some v→ts[i]?=some t→aq I m l v t)→aq I m l (.tuple vs) (.aI ts)
 | cond (v pc t):(holds pc→aq I m l v t)→(¬ holds pc→v=Go.undef)→aq I m l v (.cond pc t)
 | aL (g) (vs:Array Value) (ts:List T):vs.size=ts.length→(∀ (i:Nat) v t,vs[i]?=some v→ts[i]?=some t→aq I m l v t)→aq I m l (.func (.func g) #[] vs) (.aL g ts)
 | bd (id b):isVar l id=true→m id = .func (.yield b) #[] #[]→aq I m l (.func (.yield b) #[] #[]) (.bd id)
 | sub (A:Option Addr) (n c id lo hi:Nat):id < l.length→(∀ e size els,(l[id]?=some (.row e size els)∨l[id]?=some (.bx e size els))→∃ A0 n0 c0,m id = .slice A0 n0 c0∧lo≤hi∧hi≤n0∧Value.slice A n c=sliced A0 lo hi c0 size)→aq I m l (.slice A n c) (.sub id lo hi)
 | bD (A:Option Addr) (n c id:Nat) (x:D):id < l.length→(isRow l id=true→m id = .slice A n c)→Rd I (.slice A n c) x→aq I m l (.slice A n c) (.bD id x)
 | bL (id b n c:Nat):isVar l id=true→m id = .pointer (some ⟨b,0,none⟩)→n≤c→c≤maxLen→aq I m l (.slice (some ⟨b,0,none⟩) n c) (.bL id n)
 | agg (vs:Array Value) (ts:List T):vs.size=ts.length→(∀ (i:Nat) v,vs[i]?=some v→v.oneCell'=true)→(∀ (i:Nat) v t,vs[i]?=some v→ts[i]?=some t→aq I m l v t)→aq I m l (.agg vs) (.agg ts)
structure Le (I:aw) (m:Nat→Value) (l:List AO) (J:aw) (m':Nat→Value) (l':List AO):Prop where
 eF:I.le J
 len:l.length≤l'.length
 var:∀ id,id < l.length→isVar l id=true→isVar l' id=true∧m' id=m id
 row:∀ id,id < l.length→isRow l' id=true→isRow l id=true∧m' id=m id
 rows:∀ id e size els,id < l.length→(l'[id]?=some (.row e size els)∨l'[id]?=some (.bx e size els))→∃ els',(l[id]?=some (.row e size els')∨l[id]?=some (.bx e size els'))
theorem Le.refl (I:aw) (m:Nat→Value) (l:List AO):Le I m l I m l:=⟨.refl I,Nat.le_refl _,fun _ _ h=>⟨h,rfl⟩,fun _ _ h=>⟨h,rfl⟩,fun _ _ _ els _ h=>⟨els,h⟩⟩
theorem Le.trans {I J K:aw} {m m' UF:Nat→Value} {l l' kp:List AO} (h:Le I m l J m' l') (k:Le J m' l' K UF kp):Le I m l K UF kp where
 eF:=h.eF.trans k.eF
 len:=Nat.le_trans h.len k.len
 var id an hv:=by
  obtain⟨h1,h2⟩:=h.var id an hv
  obtain⟨k1,k2⟩:=k.var id (Nat.lt_of_lt_of_le an h.len) h1
  exact⟨k1,k2.trans h2⟩
 row id an hv:=by
  obtain⟨k1,k2⟩:=k.row id (Nat.lt_of_lt_of_le an h.len) hv
  obtain⟨h1,h2⟩:=h.row id an k1
  exact⟨h1,k2.trans h2⟩
 rows id e size els an hv:=by
  obtain⟨els',h'⟩:=k.rows id e size els (Nat.lt_of_lt_of_le an h.len) hv
  exact h.rows id e size els' an h'
theorem EG {l:List AO} {base id:Nat} (h:id < base):isVar (l.take base) id=isVar l id:=by unfold isVar;rw[List.getElem?_take,if_pos h]
theorem EE {l:List AO} {base id:Nat} (h:id < base):isRow (l.take base) id=isRow l id:=by unfold isRow;rw[List.getElem?_take,if_pos h]
theorem Le.take {I J:aw} {m m':Nat→Value} {l l':List AO} (h:Le I m l J m' l') (base:Nat):Le I m (l.take base) J m' (l'.take base) where
 eF:=h.eF
 len:=by have:=h.len;rw[List.length_take,List.length_take];omega
 var id an hv:=by
  rw[List.length_take] at an
  rw[EG (by omega)] at hv ⊢
  exact h.var id (by omega) hv
 row id an hv:=by
  rw[List.length_take] at an
  rw[EE (by omega)] at hv ⊢
  exact h.row id (by omega) hv
 rows id e size els an hv:=by
  rw[List.length_take] at an
  rw[List.getElem?_take,if_pos (by omega)] at hv ⊢
  exact h.rows id e size els (by omega) hv
theorem Le.Ht (I:aw) (m:Nat→Value) (l:List AO) (base:Nat):Le I m (l.take base) I m l where
 eF:= .refl I
 len:=by rw[List.length_take];omega
 var id an hv:=by
  rw[List.length_take] at an
  rw[EG (by omega)] at hv
  exact⟨hv,rfl⟩
 row id an hv:=by
  rw[List.length_take] at an
  rw[EE (by omega)]
  exact⟨hv,rfl⟩
 rows id e size els an hv:=by
  rw[List.length_take] at an
  refine⟨els,?_⟩
  rw[List.getElem?_take,if_pos (by omega)];exact hv
theorem EF {l:List AO} {id:Nat} (h:isVar l id=true):id < l.length:=by
 unfold isVar at h
 rcases Nat.lt_or_ge id l.length with h' | h'
 ·exact h'
 rw[List.getElem?_eq_none h'] at h;simp at h
theorem aq.mono {I J:aw} {m m':Nat→Value} {l l':List AO} (h:Le I m l J m' l') {v:Value} {t:T} (r:aq I m l v t):aq J m' l' v t:=by
 induction r with
 | undef v=>exact .undef v
 | d v x r=>exact .d v x (r.mono h.eF)
 | bC s=>exact .bC s
 | ptr id b off h1 h2=>
  obtain⟨k1,k2⟩:=h.var id (EF h1) h1
  exact .ptr id b off k1 (k2.trans h2)
 | bw b o size els k off val h1 h2 h3 h4=>exact .bw b o size els k off val h1 h2 (fun j hj=>h.eF.cell _ _ _ (h3 j hj)) (fun j x hx=>(h4 j x hx).mono h.eF)
 | row A n c id h1 h2=>
  refine .row A n c id (Nat.lt_of_lt_of_le h1 h.len) fun hl=>?_
  obtain⟨k1,k2⟩:=h.row id h1 hl
  exact k2.trans (h2 k1)
 | bf a id k off h1 h2=>
  refine .bf a id k off (Nat.lt_of_lt_of_le h1 h.len) fun e size els hl=>?_
  obtain⟨els',h'⟩:=h.rows id e size els h1 hl
  obtain⟨b,n,c,q1,q2⟩:=h2 e size els' h'
  have:isRow l' id=true:=by unfold isRow;rcases hl with hl | hl<;>simp[hl,AO.isRow]
  exact⟨b,n,c,(h.row id h1 this).2.trans q1,q2⟩
 | sub A n c id lo hi h1 h2=>
  refine .sub A n c id lo hi (Nat.lt_of_lt_of_le h1 h.len) fun e size els hl=>?_
  obtain⟨els',h'⟩:=h.rows id e size els h1 hl
  obtain⟨A0,n0,c0,q1,q2⟩:=h2 e size els' h'
  have:isRow l' id=true:=by unfold isRow;rcases hl with hl | hl<;>simp[hl,AO.isRow]
  exact⟨A0,n0,c0,(h.row id h1 this).2.trans q1,q2⟩
 | bD A n c id x h1 h2 h3=>
  refine .bD A n c id x (Nat.lt_of_lt_of_le h1 h.len) (fun hl=>?_) (h3.mono h.eF)
  obtain⟨k1,k2⟩:=h.row id h1 hl
  exact k2.trans (h2 k1)
 | map r id h1 h2=>
  refine .map r id (Nat.lt_of_lt_of_le h1 h.len) fun hl=>?_
  obtain⟨k1,k2⟩:=h.row id h1 hl
  exact k2.trans (h2 k1)
 | aI vs ts h1 _ ih=>exact .aI vs ts h1 ih
 | cond v pc t _ hn ih=>exact .cond v pc t ih hn
 | aL g vs ts h1 _ ih=>exact .aL g vs ts h1 ih
 | bd id b h1 h2=>
  obtain⟨k1,k2⟩:=h.var id (EF h1) h1
  exact .bd id b k1 (k2.trans h2)
 | bL id b n c h1 h2 h3 h4=>
  obtain⟨k1,k2⟩:=h.var id (EF h1) h1
  exact .bL id b n c k1 (k2.trans h2) h3 h4
 | agg vs ts h1 h2 _ ih=>exact .agg vs ts h1 h2 ih
def own:Value→Option Nat
 | .pointer (some a)=>some a.block
 | .slice (some a) _ _=>some a.block
 | .map (some b)=>some b
 | .func (.yield b) _ _=>some b
 | _=>none
def aw.eZ (I:aw) (b:Nat):Prop:=(∀ o,I.cell b o=none)∧I.mp b=none
def gd (o:Option Obj) (es:ME):Prop:=o=some (.map es.1 es.2)∧MapKept.Stamped es.1 es.2
theorem gd.to {o o':Option Obj} {es:ME} (h:o'=o) (k:gd o es):gd o' es:=⟨h.trans k.1,k.2⟩
def CU (es:ME) (i:Nat):Nat:=((es.1[i]?).map (·.born)).getD 0
def jM (B:Nat) (w:World) (I:aw) (m:Nat→Value) (l:List AO) (v:Value):AO→Prop
 | .dead=>True
 | .var ty cs=>∃ b vs,v = .pointer (some ⟨b,0,none⟩)∧B≤b∧w.heap[b]?=some (.cells vs ty (0,0))∧vs.size=cs.length∧(∀ (i:Nat) x t,vs[i]?=some x→cs[i]?=some t→aq I m l x t∧x.oneCell'=true)∧I.eZ b
 | .row e size els=>∃ xs,w.ownsRow B e size v els.length xs∧(∀ d∈els,d.cells.length=size∧∀ x∈d.cells,x.one=true)∧(∀ (j:Nat) x y,xs[j]?=some x→(flat els)[j]?=some y→Rd I x y)∧(∀ b,own v=some b→I.eZ b)
 | .bx e size els=>∃ xs,w.ownsRow B e size v els.length xs∧(∀ d∈els,d.cells.length=size∧∀ x∈d.cells,x.one=true)∧(∀ (j:Nat) x y,xs[j]?=some x→(flat els)[j]?=some y→Rd I x y)∧(∀ b,own v=some b→I.mp b=none∧(∀ (j:Nat) x,xs[j]?=some x→I.cell b j=some x)∧∀ j,xs.length≤j→I.cell b j=none)
 | .map ks vs=>∃ b es,v = .map (some b)∧B≤b∧gd w.heap[b]? es∧es.1.size=ks.length∧es.1.size=vs.length∧(∀ (i:Nat) (e:MapEntry) (d:D),es.1[i]?=some e→ks[i]?=some d→Rd I e.key d)∧(∀ (i:Nat) (e:MapEntry) (d:D),es.1[i]?=some e→vs[i]?=some d→Rd I e.val d)∧I.eZ b
 | .eP ks vs=>∃ b es,v = .map (some b)∧B≤b∧gd w.heap[b]? es∧es.1.size=ks.length∧es.1.size=vs.length∧(∀ (i:Nat) (e:MapEntry) (d:D),es.1[i]?=some e→ks[i]?=some d→Rd I e.key d)∧(∀ (i:Nat) (e:MapEntry) (d:D),es.1[i]?=some e→vs[i]?=some d→Rd I e.val d)∧(∀ o,I.cell b o=none)∧I.mp b=some es
 | .iter ks vs done=>∃ b mb es seen,v = .pointer (some ⟨b,0,none⟩)∧B≤b∧w.heap[b]?=some (.mapIter mb es.2 seen es.2)∧((∀ r,mb=some r→I.mp r=some es)∧(mb=none→es.1 = #[]))∧es.1.size=ks.length∧es.1.size=vs.length∧(∀ (i:Nat) (e:MapEntry) (d:D),es.1[i]?=some e→ks[i]?=some d→Rd I e.key d)∧(∀ (i:Nat) (e:MapEntry) (d:D),es.1[i]?=some e→vs[i]?=some d→Rd I e.val d)∧(seen.toList=done.map (CU es)∧∀ i∈done,i < es.1.size)∧I.eZ b
 | .frame base vals t=>own v=none∧base≤l.length∧∀ k,aq I m (l.take base) (vals k) (get t k)
 | .loop base n ps bp body t st eu=>∃ b r,v = .func (.yield b) #[] #[]∧B≤b∧w.heap[b]?=some (.loop r)∧(r.state=st∧r.pending=eu∧r.params=ps∧r.assign=bp∧r.body=body∧r.tmps.size=n)∧base≤l.length∧(∀ k,aq I m (l.take base) (r.tmps.getD k undef) (get t k))∧I.eZ b
class bh where
 on:Prop
 l8:Nat→Option D:=fun _=>none
variable [bh]
structure dH (w:World) (I:aw):Prop where
 cell:∀ b o v,I.cell b o=some v→w.cell? ⟨b,o,none⟩=some v
 mp:∀ b es,I.mp b=some es→gd w.heap[b]? es
 df:∀ b,I.df b→w.heap[b]?=some (.deferred (some []))
 dA:∀ g d,bh.l8 g=some d→Rd I (.pointer (some ⟨g,0,none⟩)) (.box d)
theorem dH.mr {w:World} {I:aw} (h:dH w I) {b:Nat} (hc:I.df b):b < w.heap.size:=(Array.getElem?_eq_some_iff.1 (h.df b hc)).1
theorem dH.oS {w:World} {I:aw} (h:dH w I) {b:Nat} {o:Obj} (ho:w.heap[b]?=some o) (hn:o ≠ .deferred (some [])):¬ I.df b:=fun hd=>by
 rw[h.df b hd] at ho;injection ho with ho;exact hn ho.symm
theorem dH.lt {w:World} {I:aw} (h:dH w I) {b o:Nat} {v:Value} (hc:I.cell b o=some v):b < w.heap.size:=World.block_lt_of_cell? w ⟨b,o,none⟩ (h.cell b o v hc)
theorem dH.qb {w:World} {I:aw} (h:dH w I) {b:Nat} {es:ME} (hc:I.mp b=some es):b < w.heap.size:=by
 have hh:=h.mp b es hc
 exact(Array.getElem?_eq_some_iff.1 hh.1).1
theorem dH.eZ {w:World} {I:aw} (h:dH w I) {b:Nat} (hb:w.heap.size≤b):I.eZ b:=by
 refine⟨fun o=>?_,?_⟩
 ·cases hc:I.cell b o with
  | none=>rfl
  | some v=>have:=h.lt hc;omega
 cases hc:I.mp b with
 | none=>rfl
 | some v=>have:=h.qb hc;omega
structure gE (B:Nat) (I J:aw):Prop where
 lc:∀ b o v,I.cell b o=some v→J.cell b o=some v
 lm:∀ b es,I.mp b=some es→J.mp b=some es
 ld:∀ b,b < B→I.df b→J.df b
 cell:∀ b,b < B→J.cell b=I.cell b
 mp:∀ b,b < B→J.mp b=I.mp b
theorem gE.of {B:Nat} {I J:aw} (h:I.le J) (hc:∀ b,b < B→J.cell b=I.cell b) (hm:∀ b,b < B→J.mp b=I.mp b):gE B I J:=⟨h.cell,h.mp,fun b _=>h.df b,hc,hm⟩
theorem gE.le {B:Nat} {I J:aw} (h:gE B I J) (hb:∀ b,I.df b→b < B):I.le J:=⟨h.lc,h.lm,fun b hd=>h.ld b (hb b hd) hd⟩
theorem gE.refl (B:Nat) (I:aw):gE B I I:= .of (.refl I) (fun _ _=>rfl) (fun _ _=>rfl)
theorem gE.trans {B B':Nat} {I J K:aw} (h:gE B I J) (k:gE B' J K) (hB:B≤B'):gE B I K:=
 ⟨fun _ _ _ x=>k.lc _ _ _ (h.lc _ _ _ x),fun _ _ x=>k.lm _ _ (h.lm _ _ x),fun b hb x=>k.ld b (by omega) (h.ld b hb x),fun b hb=>(k.cell b (by omega)).trans (h.cell b hb),fun b hb=>(k.mp b (by omega)).trans (h.mp b hb)⟩
def alive (l:List AO) (id:Nat):Bool:=isVar l id||isRow l id
structure eB (B:Nat) (w w':World):Prop where
 os:w'.os=w.os
 tape:w'.tape=w.tape
 output:w'.output=w.output
 size:w.heap.size≤w'.heap.size
 block:∀ k,k < B→w'.heap[k]?=w.heap[k]?
 drawn:bh.on→w.drawn≤w'.drawn
theorem eB.refl (B:Nat) (w:World):eB B w w:=⟨rfl,rfl,rfl,Nat.le_refl _,fun _ _=>rfl,fun _=>Nat.le_refl _⟩
theorem eB.below {B:Nat} {w w':World} (h:eB B w w'):Below B w w':=⟨h.os,h.tape,h.output,h.size,h.block⟩
theorem eB.of {B:Nat} {w w':World} (h:Below B w w') (hd:bh.on→w.drawn≤w'.drawn):eB B w w':=⟨h.os,h.tape,h.output,h.size,h.block,hd⟩
theorem eB.trans {B:Nat} {a b c:World} (h:eB B a b) (k:eB B b c):eB B a c:= .of (h.below.trans k.below) fun o=>Nat.le_trans (h.drawn o) (k.drawn o)
theorem eB.mono {B B':Nat} {w w':World} (h:eB B w w') (hB:B'≤B):eB B' w w':= .of (h.below.mono hB) h.drawn
theorem eB.alloc {B:Nat} {w w':World} (h:eB B w w') (hB:B≤w'.heap.size) (o:Obj):eB B w (w'.alloc o):= .of (h.below.alloc hB o) h.drawn
theorem eB.drew {B:Nat} {w w':World} (h:eB B w w'):eB B w w'.drew:= .of h.below.drew fun o=>Nat.le_trans (h.drawn o) (Nat.le_succ _)
structure aF (w0:World) (I0:aw) (w:World) (I:aw) (m:Nat→Value) (l:List AO):Prop where
 below:eB w0.heap.size w0 w
 sat:dH w I
 ext:gE w0.heap.size I0 I
 obj:∀ id o,l[id]?=some o→jM w0.heap.size w I m l (m id) o
 sep:∀ i j b,i≠j→alive l i=true→alive l j=true→own (m i)=some b→own (m j)≠some b
end Go.aj
namespace Go.aj
open Go Go.RowKit
theorem HD {α:Type}:∀ (x:Ask α) (w:World),w.drawn≤(w.ask x).2.drawn
 | .done a,w=>Nat.le_refl _
 | .ask ajL range k,w=>by
  simp only[World.ask]
  split
  ·exact HD _ w
  exact Nat.le_trans (Nat.le_succ _) (HD (k _) { w with drawn:=w.drawn+1 })
theorem aiI (w:World) (c:Sys):w.drawn≤(w.sys c).2.drawn:=by
 unfold World.sys
 have h:=HD (Kernel.perform c w.os) w
 split
 ·exact Nat.le_refl _
 rename_i r os w' bc he
 rw[he] at h;exact h
theorem ai9 {p:Program} {w w':World} {at_:Addr} {u:TypeId} {k:Addr} {v:Value} {atomic:Bool} {l:List Addr} (h:w.viewStore p at_ u k v atomic = .ok (w',l)):w'.drawn=w.drawn:=by
 unfold World.viewStore at h
 simp only[bind,Except.bind,pure,Except.pure,throw,throwThe,MonadExceptOf.throw] at h
 repeat' split at h
 all_goals first | cases h;done | skip
 all_goals (injection h with h;injection h with h _;subst h;rfl)
theorem aat {p:Program} {w w':World} {a:Addr} {v:Value} {atomic:Bool} {l:List Addr} (h:w.farStore p a v atomic = .ok (w',l)):w'.drawn=w.drawn:=by
 unfold World.farStore at h
 split at h
 ·split at h
  ·rename_i r hr
   injection h with h;subst h;exact ai9 hr
  cases h
 cases h
theorem jG {α:Type} (p:Program):∀ (s:Sem α) (w:World) (a:α) (w':World),s.run p w = .ok a w'→w.drawn≤w'.drawn
 | .pure a,w,b,w',h=>by simp only[Sem.run] at h;cases h;exact Nat.le_refl _
 | .load m a k,w,b,w',h=>by
  simp only[Sem.run] at h
  split at h
  ·exact jG p _ w b w' h
  split at h
  ·exact jG p _ w b w' h
  cases h
 | .store m a v k,w,b,w',h=>by
  have key:∀ u:Value,(match w.cell? a with
    | some _=>if w.frozen? a then Result.halt (.unsupported (.unsafePointer "a write to bytes that a string shares")) w else k.run p (w.setCell a u)
    | none=>match w.farStore p a u (m == .atomic) with
     | .ok (w,_)=>k.run p w
     | .error h=> .halt h w)=Result.ok b w'→w.drawn≤w'.drawn:=by
   intro u h
   split at h
   ·split at h
    ·cases h
    have:=jG p k _ b w' h;exact this
   split at h
   ·rename_i w2 l hf
    have:=jG p k _ b w' h
    rw[aat hf] at this;exact this
   cases h
  cases v<;>simp only[Sem.run] at h<;>first | exact key _ h | cases h
 | .new o k,w,b,w',h=>by simp only[Sem.run] at h;have:=jG p _ _ b w' h;exact this
 | .shape r k,w,b,w',h=>by simp only[Sem.run] at h;exact jG p _ _ b w' h
 | .freeze a n k,w,b,w',h=>by
  simp only[Sem.run] at h
  have:=jG p _ _ b w' h
  unfold World.freeze at this
  split at this<;>exact this
 | .frozen a k,w,b,w',h=>by simp only[Sem.run] at h;exact jG p _ _ b w' h
 | .getObj r k,w,b,w',h=>by
  simp only[Sem.run] at h
  split at h
  ·cases h
  ·exact jG p _ _ b w' h
  cases h
 | .setObj r o k,w,b,w',h=>by
  simp only[Sem.run] at h
  split at h
  ·cases h
  ·have:=jG p _ _ b w' h;exact this
  cases h
 | .choose q k,w,b,w',h=>by
  simp only[Sem.run] at h
  split at h
  ·exact jG p _ _ b w' h
  exact Nat.le_trans (Nat.le_succ _) (jG p _ _ b w' h)
 | .sys c k,w,b,w',h=>by simp only[Sem.run] at h;exact Nat.le_trans (aiI w c) (jG p _ _ b w' h)
 | .program k,w,b,w',h=>by simp only[Sem.run] at h;exact jG p _ _ b w' h
 | .mark m k,w,b,w',h=>by simp only[Sem.run] at h;exact jG p _ _ b w' h
 | .halt x,w,b,w',h=>by simp only[Sem.run] at h;cases h
theorem WO (s:ByteArray):∀ (bound i:Nat) (acc:Array Value),(∀ x∈acc.toList,∃ n,x = .int .i32 n)→∀ x∈(Conv.runesFrom s bound i acc).toList,∃ n,x = .int .i32 n
 | 0,_,acc,h=>h
 | bound+1,i,acc,h=>by
  unfold Conv.runesFrom
  split
  ·refine WO s bound _ _ fun x hx=>?_
   simp at hx
   rcases hx with hx | rfl
   ·exact h x (by simpa using hx)
   exact⟨_,rfl⟩
  exact h
end Go.aj
namespace Go.aj
open Go Go.RowKit
inductive TD where
 | aH
 | eX (k:IntKind)
 | string
 | slice (e:TypeId)
 | struct (fs:List (Nat×TypeId))
 | array (n:Nat) (e:TypeId)
 | map (k v:TypeId)
 deriving DecidableEq,Inhabited
structure TI where
 size:Nat
 bytes:Nat
 zero:List D
 desc:TD
def TD.agg:TD→Bool
 | .struct _=>true
 | .array _ _=>true
 | _=>false
abbrev cA:=TypeId→Option TI
abbrev Cz:=FuncId→List D→Option (D×Prop)
structure FR where
 t:T
 l:List AO
 ob:Prop
abbrev N0:=FuncId→List T→List AO→Option FR
def fR (agg:Bool) (cs:List D):D:=if agg then .agg cs else cs.headD .eY
inductive wS where
 | none
 | new (o:AO)
 | aP (l:List AO)
structure R where
 t:T
 bn:wS
 ob:Prop
def R.ok (t:T):R:=⟨t,.none,True⟩
def R.bad:R:=⟨.undef,.none,False⟩
def wN:Value→D→Bool
 | .bool b,.bool c=>b == c
 | .int k n,.int k' n'=>k == k'&&n == n'
 | .string s,.str s'=>s.data == s'.data
 | .slice none 0 0,.slice _ []=>true
 | .pointer none,.eY=>true
 | .map none,.map [] []=>true
 | .nilFunc,.aG=>true
 | .nilIface,.qf=>true
 | _,_=>false
def zn:Value→T
 | .bool b=> .d (.bool b)
 | .int k n=> .d (.int k n)
 | .string s=> .d (.str s)
 | .slice none 0 0=> .bC 0
 | .pointer none=> .d .eY
 | .map none=> .d (.map [] [])
 | .nilFunc=> .d .aG
 | .nilIface=> .d .qf
 | _=> .undef
def bR [bh] (s:Tm):Operand→T
 | .tmp t=>get s t
 | .const v=>zn v
 | .func f=> .d (.fn f)
 | .global g=>match bh.l8 g with | some d=> .bw d.cells.length [d] 0 0 | none=> .undef
structure St where
 t:Tm
 l:List AO
def dp (l:List AO):T→Option (D×List AO)
 | .d x=>some (x,l)
 | .bD _ x=>some (x,l)
 | .bC s=>some (.slice s [],l)
 | .row id=>match l[id]? with
  | some (.bx _ s els)=>some (.slice s els,l)
  | some (.row e s els)=>some (.slice s els,l.set id (.bx e s els))
  | _=>none
 | .map id=>match l[id]? with
  | some (.eP ks vs)=>some (.map ks vs,l)
  | some (.map ks vs)=>some (.map ks vs,l.set id (.eP ks vs))
  | _=>none
 | _=>none
def dW:List AO→List T→Option (List D×List AO)
 | l,[]=>some ([],l)
 | l,t::ts=>match dp l t with
  | none=>none
  | some (x,l')=>match dW l' ts with
   | none=>none
   | some (xs,kp)=>some (x::xs,kp)
def mv (l:List AO):T→Bool
 | .d _=>true
 | .bD _ _=>true
 | .bC _=>true
 | .row id=>match l[id]? with | some (.bx ..)=>true | _=>false
 | .map id=>match l[id]? with | some (.eP ..)=>true | _=>false
 | _=>false
def ei (l:List AO) (t:T):Option (D×List AO):=match t with
 | .agg ts=>(match dW l ts with
  | some (ds,l')=>some (.agg ds,l')
  | none=>none)
 | t=>dp l t
def gG:List AO→List T→Option (List D×List AO)
 | l,[]=>some ([],l)
 | l,t::ts=>match ei l t with
  | none=>none
  | some (x,l')=>match gG l' ts with
   | none=>none
   | some (xs,kp)=>some (x::xs,kp)
def rW (l:List AO) (t:T):Bool:=match t with
 | .agg ts=>ts.all (mv l)
 | t=>mv l t
def arith (k:IntKind) (n:Int):D×Prop:=
 match k with
 | .i64=>(.int .i64 n,-9223372036854775808≤n∧n≤9223372036854775807)
 | k=>(.int k (k.wrap n),True)
mutual
def jN:D→D→Bool
 | .bool a,.bool b=>a == b
 | .int _ a,.int _ b=>a == b
 | .str a,.str b=>a == b
 | .agg xs,.agg ys=>dJ xs ys
 | _,_=>false
def dJ:List D→List D→Bool
 | [],[]=>true
 | x::xs,y::ys=>jN x y&&dJ xs ys
 | _,_=>false
end
inductive Lf where
 | bool
 | int (k:IntKind)
 | str
 deriving DecidableEq
def xW:Lf→D→Bool
 | .bool,.bool _=>true
 | .int k,.int k' _=>k == k'
 | .str,.str _=>true
 | _,_=>false
def iL:List Lf→List D→Bool
 | [],[]=>true
 | x::xs,d::ds=>xW x d&&iL xs ds
 | _,_=>false
def gH (lO:TypeId→Option (List Lf)) (op:BinOp) (ty:TypeId):D→D→Option (D×Prop)
 | .int k a,.int k' b=>
  if k≠k' then none else
  match op with
  | .add=>some ((arith k (a+b)).1,(arith k (a+b)).2)
  | .sub=>some ((arith k (a - b)).1,(arith k (a - b)).2)
  | .mul=>some ((arith k (a*b)).1,(arith k (a*b)).2)
  | .quo=>(match k with | .i64=>some (.int .i64 (a.tdiv b),b≠0 ∧ -9223372036854775808≤a.tdiv b∧a.tdiv b≤9223372036854775807) | _=>none)
  | .rem=>some (.int k (a.tmod b),b≠0)
  | .eql=>some (.bool (decide (a=b)),True)
  | .neq=>some (.bool (!decide (a=b)),True)
  | .lss=>some (.bool (decide (a < b)),True)
  | .leq=>some (.bool (decide (a≤b)),True)
  | .gtr=>some (.bool (decide (b < a)),True)
  | .geq=>some (.bool (decide (b≤a)),True)
  | _=>none
 | .bool a,.bool b=>match op with
  | .eql=>if lO ty=some [.bool] then some (.bool (a == b),True) else none
  | .neq=>if lO ty=some [.bool] then some (.bool (!(a == b)),True) else none
  | _=>none
 | .str a,.str b=>match op with
  | .eql=>some (.bool (a == b),True)
  | .neq=>some (.bool (!(a == b)),True)
  | .add=>some (.str (a++b),(a.size:Int)+(b.size:Int)≤9223372036854775807)
  | _=>none
 | .agg xs,.agg ys=>match op with
  | .eql=>(match lO ty with | some ls=>if ls=[.bool] then none else some (.bool (dJ xs ys),iL ls xs=true∧iL ls ys=true) | none=>none)
  | .neq=>(match lO ty with | some ls=>if ls=[.bool] then none else some (.bool (!(dJ xs ys)),iL ls xs=true∧iL ls ys=true) | none=>none)
  | _=>none
 | _,_=>none
def Cr (op:UnOp):D→Option (D×Prop)
 | .bool b=>match op with | .not=>some (.bool (!b),True) | _=>none
 | .int k n=>match op with | .neg=>some ((arith k (0 - n)).1,(arith k (0 - n)).2) | _=>none
 | _=>none
def oV:Option (D×Prop)→R
 | some (x,ob)=>⟨.d x,.none,ob⟩
 | none=> .bad
def bu:T→List T
 | .d x=>x.cells.map .d
 | .agg ts=>ts
 | t=>[t]
def T.iM:T→Bool
 | .d x=>x.one
 | .aI _=>false
 | .cond _ _=>false
 | .agg _=>false
 | .undef=>false
 | _=>true
def kj:T→Option D
 | .d x=>some x
 | .bC s=>some (.slice s [])
 | _=>none
def gJ:T→Option D
 | .d x=>some x
 | _=>none
def jy (agg:Bool) (cs:List T):T:=
 if agg then(match cs.mapM gJ with | some ds=> .d (.agg ds) | none=> .agg cs) else cs.headD .undef
def lU:D→T
 | .slice s []=> .bC s
 | x=> .d x
def unbox:T→T
 | .d (.box d)=> .bw d.cells.length [d] 0 0
 | t=>t
def pz (g:FuncId) (ts:List T):T:=match ts.mapM gJ with
 | some ds=> .d (.aL g ds)
 | none=> .aL g ts
def setAt {α:Type} (l:List α) (off:Nat) (xs:List α):List α:=l.take off++xs++l.drop (off+xs.length)
def bq (E:cA) (t:TypeId):Nat:=((E t).map TI.size).getD 0
def oy (place:Nat→Option (Nat×Nat)) (cells:List T):List (Nat×T)→Option (List T)
 | []=>some cells
 | (i,t)::rest=>match place i with
  | some (off,size)=>if(bu t).length=size∧off+size≤cells.length∧(bu t).all T.iM=true then oy place (setAt cells off (bu t)) rest else none
  | none=>none
def yt (E:cA) (fs:List (Nat×TypeId)) (i:Nat):Option (Nat×Nat):=(fs[i]?).map fun f=>(f.1,bq E f.2)
def fK (els:List D) (k:Nat):D:=(els[k]?).getD .eY
def xM:D→Bool
 | .agg _=>true
 | _=>false
def kX (i:TI) (size:Nat) (els:List D) (k off:Nat):R:=
 if size=i.size∧off=0 then⟨.d (fK els k),.none,k < els.length∧xM (fK els k)=i.desc.agg⟩
 else⟨.d (fR i.desc.agg (((fK els k).cells.drop off).take i.size)),.none,k < els.length∧off+i.size≤size⟩
def iu (E:cA) (ty:TypeId) (l:List AO):T→R
 | .ptr id off=>match E ty,l[id]? with
  | some i,some (.var _ cs)=>if off+i.size≤cs.length then .ok (jy i.desc.agg ((cs.drop off).take i.size)) else .bad
  | _,_=> .bad
 | .bw size els k off=>match E ty with
  | some i=>kX i size els k off
  | none=> .bad
 | .bf id k off=>match E ty,l[id]? with
  | some i,some (.row _ size els) | some i,some (.bx _ size els)=>kX i size els k off
  | _,_=> .bad
 | _=> .bad
def tU (l:List AO):T→T→R
 | .ptr id off,x=>match l[id]? with
  | some (.var ty cs)=>if off+(bu x).length≤cs.length then⟨.undef,.aP (l.set id (.var ty (setAt cs off (bu x)))),((bu x).all T.iM)=true⟩ else .bad
  | _=> .bad
 | .bf id k 0,.d x=>match l[id]? with
  | some (.row e size els)=>if x.cells.length=size then⟨.undef,.aP (l.set id (.row e size (els.set k x))),x.cells.length=size∧x.cells.all D.one=true∧k < els.length⟩ else(match fK els k with
   | .agg cs=>⟨.undef,.aP (l.set id (.row e size (els.set k (.agg (setAt cs 0 x.cells))))),0+x.cells.length≤size∧x.cells.all D.one=true∧k < els.length⟩
   | _=> .bad)
  | _=> .bad
 | .bf id k (off+1),.d x=>match l[id]? with
  | some (.row e size els)=>(match fK els k with
   | .agg cs=>⟨.undef,.aP (l.set id (.row e size (els.set k (.agg (setAt cs (off+1) x.cells))))),off+1+x.cells.length≤size∧x.cells.all D.one=true∧k < els.length⟩
   | _=> .bad)
  | _=> .bad
 | _,_=> .bad
def nF (E:cA) (s:TypeId) (f:Nat):T→R
 | .ptr id off=>match E s with | some ⟨_,_,_,.struct fs⟩=>(match fs[f]? with | some p=>if 0 < bq E p.2 then .ok (.ptr id (off+p.1)) else .bad | none=> .bad) | _=> .bad
 | .bw size els k off=>match E s with | some ⟨_,_,_,.struct fs⟩=>(match fs[f]? with | some p=>if 0 < bq E p.2 then .ok (.bw size els k (off+p.1)) else .bad | none=> .bad) | _=> .bad
 | .bf id k off=>match E s with | some ⟨_,_,_,.struct fs⟩=>(match fs[f]? with | some p=>if 0 < bq E p.2 then .ok (.bf id k (off+p.1)) else .bad | none=> .bad) | _=> .bad
 | _=> .bad
def pD (E:cA) (s:TypeId) (f:Nat):T→R
 | .d (
    .agg cs)=>match E s with
  | some ⟨_,_,_,.struct fs⟩=>(match fs[f]? with
   | some p=>(match E p.2 with
    | some i=>if p.1+i.size≤cs.length∧0 < i.size then .ok (.d (fR i.desc.agg ((cs.drop p.1).take i.size))) else .bad
    | none=> .bad)
   | none=> .bad)
  | _=> .bad
 | _=> .bad
def eg:T→Option (IntKind×Int)
 | .d (.int k n)=>some (k,n)
 | _=>none
def mW (E:cA) (t:TypeId) (l:List AO) (x i:T):R:=
 match E t,eg i with
 | some ⟨_,_,_,.slice e⟩,some (_,n)=>
  (match x with
  | .d (.slice size els)=>if size=bq E e∧0 < size then⟨.bw size els n.toNat 0,.none,0≤n∧n < els.length⟩ else .bad
  | .row id=>(match l[id]? with
   | some (.row _ size els) | some (.bx _ size els)=>if size=bq E e∧0 < size then⟨.bf id n.toNat 0,.none,0≤n∧n < els.length⟩ else .bad
   | _=> .bad)
  | _=> .bad)
 | some ⟨_,_,_,.array len e⟩,some (_,n)=>
  (match x with
  | .bw size els k off=>if(E e).isSome=true then⟨.bw size els k (off+n.toNat*bq E e),.none,0≤n∧n < len⟩ else .bad
  | _=> .bad)
 | _,_=> .bad
def mapOf (l:List AO):T→Option (List D×List D)
 | .d (.map ks vs)=>some (ks,vs)
 | .map id=>match l[id]? with
  | some (.map ks vs) | some (.eP ks vs)=>some (ks,vs)
  | _=>none
 | _=>none
def nd (E:cA) (t:TypeId) (l:List AO) (x:T):R:=
 match E t with
 | some ⟨_,_,_,.string⟩=>(match x with | .d (.str s)=> .ok (.d (.int .i64 s.size)) | _=> .bad)
 | some ⟨_,_,_,.slice _⟩=>(match x with
  | .d (.slice _ els)=> .ok (.d (.int .i64 els.length))
  | .bC _=> .ok (.d (.int .i64 0))
  | .row id=>(match l[id]? with
   | some (.row _ _ els) | some (.bx _ _ els)=> .ok (.d (.int .i64 els.length))
   | _=> .bad)
  | _=> .bad)
 | some ⟨_,_,_,.map _ _⟩=>(match mapOf l x with | some (ks,_)=> .ok (.d (.int .i64 ks.length)) | none=> .bad)
 | _=> .bad
def mB (x:T) (lo hi:Option T):R:=
 match x with
 | .d (.slice size els)=>
  (match lo,hi with
  | none,none=> .ok x
  | some a,none=>(match eg a with | some (_,n)=>⟨.d (.slice size (els.drop n.toNat)),.none,0≤n∧n≤els.length⟩ | none=> .bad)
  | none,some b=>(match eg b with | some (_,n)=>⟨.d (.slice size (els.take n.toNat)),.none,0≤n∧n≤els.length⟩ | none=> .bad)
  | some a,some b=>(match eg a,eg b with
   | some (_,n),some (_,h)=>⟨.d (.slice size ((els.take h.toNat).drop n.toNat)),.none,0≤n∧n≤h∧h≤els.length⟩
   | _,_=> .bad))
 | _=> .bad
def pg (E:cA) (e:TypeId) (l:List AO) (id:Nat) (lo hi:Option T):R:=
 match l[id]? with
 | some (.row _ size els)=>if size=bq E e∧(E e).isSome=true then
   (match lo,hi with
   | some a,none=>(match eg a with | some (_,n)=>⟨.sub id n.toNat els.length,.aP l,0≤n∧n≤els.length⟩ | none=> .bad)
   | none,some b=>(match eg b with | some (_,n)=>⟨.sub id 0 n.toNat,.aP l,0≤n∧n≤els.length⟩ | none=> .bad)
   | _,_=> .bad) else .bad
 | _=> .bad
def pf (E:cA) (e:TypeId) (l:List AO) (id:Nat) (lo hi:Option T) (mx:T):R:=
 match l[id]?,lo,hi with
 | some (.row _ size els),some a,some b=>(match eg a,eg b,eg mx with
  | some (_,n),some (_,h),some (_,q)=>if size=bq E e∧(E e).isSome=true then⟨.undef,.aP l,0≤n∧n≤h∧h≤q∧q≤els.length⟩ else .bad
  | _,_,_=> .bad)
 | _,_,_=> .bad
def qJ (E:cA) (t:TypeId) (l:List AO) (x:T):R:=
 match E t,x with
 | some ⟨_,_,_,.slice e⟩,.sub id lo hi=>(match E e,l[id]? with
  | some i,some (.row e' size els)=>if size=i.size∧hi=els.length∧0 < size then⟨.d (.aI []),.aP (l.set id (.row e' size (els.take lo++List.replicate (hi - lo) (fR i.desc.agg i.zero)))),True⟩ else .bad
  | _,_=> .bad)
 | _,_=> .bad
def rE (E:cA) (t:TypeId) (l:List AO) (nid:Nat) (a b:T):R:=
 match E t,eg a,eg b with
 | some ⟨_,_,_,.slice e⟩,some (_,n),some (_,c)=>(match E e with
  | some i=>if 0 < i.size then⟨.row nid,.aP (l++[.row e i.size (List.replicate n.toNat (fR i.desc.agg i.zero))]),0≤n∧c=n∧n*i.bytes≤140737488355328∧n≤9223372036854775807⟩ else .bad
  | none=> .bad)
 | _,_,_=> .bad
def kE (E:cA) (t:TypeId) (l:List AO) (nid:Nat) (s x:T):R:=
 match E t with
 | some ⟨_,_,_,.slice e⟩=>(match E e with
  | some i=>
   (match ei l x with
   | some (.slice sx new,l1)=>if(sx=i.size∨new.isEmpty)∧0 < i.size then
     (match s with
     | .bC _=>⟨.row nid,.aP (l1++[.row e i.size new]),new.length*i.bytes≤140737488355328∧new.length≤9223372036854775807⟩
     | .row id=>(match l1[id]? with
      | some (.row e' size els)=>if e'=e∧size=i.size∧nid=l1.length then⟨.row nid,.aP (l1.set id .dead++[.row e size (els++new)]),(els.length+new.length)*i.bytes≤140737488355328∧els.length+new.length≤9223372036854775807⟩ else .bad
      | _=> .bad)
     | .bD id _=>(match l1[id]? with
      | some (.bx e' size els)=>if e'=e∧size=i.size∧nid=l1.length then⟨.bD nid (.slice size (els++new)),.aP (l1.set id .dead++[.bx e size (els++new)]),(els.length+new.length)*i.bytes≤140737488355328∧els.length+new.length≤9223372036854775807⟩ else .bad
      | _=> .bad)
     | _=> .bad) else .bad
   | _=> .bad)
  | none=> .bad)
 | _=> .bad
def zh (C:Cz) (f:FuncId) (l:List AO) (ts:List T):R:=
 match gG l ts with
 | some (ds,l')=>(match C f ds with
  | some (x,ob)=>⟨.d x,if ts.all (rW l) then .none else .aP l',ob⟩
  | none=> .bad)
 | none=> .bad
def rU (c a b:T):R:=
 match c with
 | .d (.bool c)=>
  let f:Bool→T→Option (Bool×Prop):=fun want t=>match t with
   | .d (.bool x)=>some (x,True)
   | .cond pc (.d (.bool x))=>some (x,c=want→holds pc)
   | _=>none
  (match f true a,f false b with
  | some (x,p),some (y,q)=>⟨.d (.bool (if c then x else y)),.none,p∧q⟩
  | some (x,p),none=>⟨.d (.bool x),.none,c=true∧p⟩
  | none,some (y,q)=>⟨.d (.bool y),.none,c=false∧q⟩
  | none,none=> .bad)
 | _=> .bad
def IN (E:cA) (t:TypeId):Nat:=match E t with | some ⟨_,_,_,.slice e⟩=>bq E e | _=>0
def typed (E:cA) (t:TypeId):T→T
 | .bC _=> .bC (IN E t)
 | x=>x
def iA (E:cA):List TypeId→List T→List T
 | t::ts,x::xs=>typed E t x::iA E ts xs
 | _,xs=>xs
structure Env where
 E:cA
 C:Cz
 lO:TypeId→Option (List Lf)
 F:N0:=fun _ _ _=>none
 P:Program
 inl:FuncId→Bool:=fun _=>false
 sub:Bool:=false
def xc (V:Env) (g:FuncId) (l:List AO) (ts:List T):R:=
 match V.F g ts l with
 | some ⟨t,l',ob⟩=>⟨t,.aP l',ob⟩
 | none=>zh V.C g l ts
def jw (n:Int):List D→Nat→Option Nat
 | [],_=>none
 | .int _ a::r,i=>if n=a then some i else jw n r (i+1)
 | _::_,_=>none
def td (k:IntKind) (ks:List D):Bool:=ks.all fun d=>match d with | .int k' _=>k' == k | _=>false
def vI (E:cA) (t:TypeId):Option (IntKind×TI):=match E t with
 | some ⟨_,_,_,.map kt e⟩=>match E kt,E e with
  | some ⟨_,_,_,.eX kk⟩,some i=>some (kk,i)
  | _,_=>none
 | _=>none
def xX (E:cA) (t:TypeId) (l:List AO) (x k:T) (ok:Bool):R:=
 match vI E t,mapOf l x,eg k with
 | some (kk,i),some (ks,vs),some (jx,n)=>
  if kk=jx then
   match jw n ks 0 with
   | some j=>⟨if ok then .d (.aI [fK vs j,.bool true]) else .d (fK vs j),.none,td kk ks=true⟩
   | none=>⟨if ok then .d (.aI [fR i.desc.agg i.zero,.bool false]) else .d (fR i.desc.agg i.zero),.none,td kk ks=true⟩
  else .bad
 | _,_,_=> .bad
def qd (E:cA) (t:TypeId) (l:List AO) (x k v:T):R:=
 match vI E t,x,eg k,kj v with
 | some (kk,_),.map id,some (jx,n),some d=>
  if kk=jx then
   match l[id]? with
   | some (.map ks vs)=>⟨.undef,.aP (l.set id (match jw n ks 0 with | some j=> .map ks (vs.set j d) | none=> .map (ks++[.int kk n]) (vs++[d]))),td kk ks=true⟩
   | _=> .bad
  else .bad
 | _,_,_,_=> .bad
def rF (E:cA) (t:TypeId) (l:List AO) (x k:T):R:=
 match vI E t,x,eg k with
 | some (kk,_),.map id,some (jx,n)=>
  if kk=jx then
   match l[id]? with
   | some (.map ks vs)=>⟨.d (.aI []),.aP (l.set id (match jw n ks 0 with | some j=> .map (ks.eraseIdx j) (vs.eraseIdx j) | none=> .map ks vs)),td kk ks=true⟩
   | _=> .bad
  else .bad
 | _,_,_=> .bad
def CX (s:ByteArray) (n:Nat):Int:=((s[n]?).getD 0).toNat
def AH (E:cA) (t:TypeId) (x i:T):R:=
 match E t,x,eg i with
 | some ⟨_,_,_,.string⟩,.d (.str s),some (_,n)=>⟨.d (.int .u8 (CX s n.toNat)),.none,0≤n∧n < s.size⟩
 | _,_,_=> .bad
def WN:Value→D
 | .int k n=> .int k n
 | _=> .eY
def B7 (s:ByteArray):List D:=(Conv.runesFrom s s.size 0 #[]).toList.map WN
def uw (E:cA) (src t:TypeId) (x:T):R:=
 match E src,E t,x with
 | some ⟨_,_,_,.eX _⟩,some ⟨_,_,_,.eX k⟩,.d (.int _ n)=> .ok (.d (.int k (k.wrap n)))
 | some ⟨_,_,_,.string⟩,some ⟨_,_,_,.slice e⟩,.d (.str s)=>(match E e with
  | some ⟨1,_,_,.eX .i32⟩=>⟨.d (.slice 1 (B7 s)),.none,s.size≤16777216⟩
  | _=> .bad)
 | _,_,_=> .bad
def GO (E:cA) (t:TypeId) (l:List AO) (nid:Nat) (x:T):R:=match E t,x with
 | some ⟨_,_,_,.map _ _⟩,.map id=>(match ei l (.map id) with
  | some (.map ks vs,l')=>⟨.ptr nid 0,.aP (l'++[.iter ks vs []]),True⟩
  | _=> .bad)
 | some ⟨_,_,_,.map _ _⟩,.d (.map ks vs)=>⟨.ptr nid 0,.aP (l++[.iter ks vs []]),True⟩
 | _,_=> .bad
def Dq (l:List AO) (x:T):R:=match x with
 | .ptr id 0=>(match l[id]? with
  | some (.iter ks vs done)=>(match done.getLast? with
   | some i=>(match ks[i]?,vs[i]? with | some k,some v=> .ok (.d (.aI [k,v])) | _,_=> .bad)
   | none=> .bad)
  | _=> .bad)
 | _=> .bad
def EU:D→D→Bool
 | .agg a,.agg b=>dJ a b
 | _,_=>false
def s9 (k:D):List D→Nat→Option Nat
 | [],_=>none
 | a::r,i=>if EU k a=true then some i else s9 k r (i+1)
def EB (kk:IntKind):D→Bool
 | .int k' _=>k' == kk
 | _=>false
def xT (n:Nat) (kk:IntKind):D→Bool
 | .agg cs=>decide (cs.length=n)&&cs.all (EB kk)
 | _=>false
def Ll (n:Nat) (kk:IntKind) (ks:List D):Bool:=ks.all (xT n kk)
def tn (E:cA) (t:TypeId):Option (Nat×IntKind×TI):=match E t with
 | some ⟨_,_,_,.map kt e⟩=>match E kt,E e with
  | some ⟨_,_,_,.array n ie⟩,some i=>(match E ie with | some ⟨_,_,_,.eX kk⟩=>some (n,kk,i) | _=>none)
  | _,_=>none
 | _=>none
def AW (E:cA) (t:TypeId) (l:List AO) (x k:T) (ok:Bool):R:=
 match tn E t,mapOf l x,k with
 | some (n,kk,i),some (ks,vs),.d kd=>
  if xT n kk kd=true then
   match s9 kd ks 0 with
   | some j=>⟨if ok then .d (.aI [fK vs j,.bool true]) else .d (fK vs j),.none,Ll n kk ks=true⟩
   | none=>⟨if ok then .d (.aI [fR i.desc.agg i.zero,.bool false]) else .d (fR i.desc.agg i.zero),.none,Ll n kk ks=true⟩
  else .bad
 | _,_,_=> .bad
def rG (E:cA) (t:TypeId) (l:List AO) (x k v:T):R:=
 match tn E t,x,k,kj v with
 | some (n,kk,_),.map id,.d kd,some d=>
  if xT n kk kd=true then
   match l[id]? with
   | some (.map ks vs)=>⟨.undef,.aP (l.set id (match s9 kd ks 0 with | some j=> .map ks (vs.set j d) | none=> .map (ks++[kd]) (vs++[d]))),Ll n kk ks=true⟩
   | _=> .bad
  else .bad
 | _,_,_,_=> .bad
def yv (E:cA) (t:TypeId) (l:List AO) (x k v:T):R:=if(tn E t).isSome=true then rG E t l x k v else qd E t l x k v
def vF (E:cA) (t:TypeId) (l:List AO) (x k:T) (ok:Bool):R:=if(tn E t).isSome=true then AW E t l x k ok else xX E t l x k ok
def wy (E:cA) (n:Nat) (e:TypeId) (cs:List D):R:=
 if bq E e=1∧(E e).isSome=true∧cs.length=n∧n≤16777216∧cs.all D.one=true then .ok (.d (.slice 1 cs)) else .bad
def evalOp (
      V:Env) (ρ:Operand→T) (l:List AO) (nid:Nat) (o:Oper):R:=
 match o.op with
 | .move x | .assign x=> .ok (typed V.E o.type (ρ x))
 | .pick c a b=>rU (ρ c) (ρ a) (ρ b)
 | .box e x=>⟨.ptr nid 0,.new (.var e (bu (ρ x))),((bu (ρ x)).all T.iM)=true⟩
 | .alloc e=>(match V.E e with | some i=>⟨.ptr nid 0,.new (.var e (i.zero.map lU)),True⟩ | none=> .bad)
 | .load t a=>iu V.E t l (unbox (ρ a))
 | .store t a x=>if(bu (ρ x)).length=bq V.E t∧0 < bq V.E t then tU l (ρ a) (ρ x) else .bad
 | .fieldAddr s x f=>nF V.E s f (unbox (ρ x))
 | .field s x f=>pD V.E s f (ρ x)
 | .binOp op ty x y _=>(match ρ x,ρ y with | .d a,.d b=>oV (gH V.lO op ty a b) | _,_=> .bad)
 | .unOp op _ x=>(match ρ x with | .d a=>oV (Cr op a) | _=> .bad)
 | .indexAddr t x i=>mW V.E t l (unbox (ρ x)) (ρ i)
 | .slice t x lo hi none=>(match V.E t,ρ x with
  | some ⟨_,_,_,.slice e⟩,.d (.slice size els)=>if size=bq V.E e∧(V.E e).isSome=true then mB (.d (.slice size els)) (lo.map ρ) (hi.map ρ) else .bad
  | some ⟨_,_,_,.slice e⟩,.row id=>if V.sub=true then pg V.E e l id (lo.map ρ) (hi.map ρ) else(match ei l (.row id) with
   | some (.slice size els,l')=>if size=bq V.E e∧(V.E e).isSome=true then⟨(mB (.d (.slice size els)) (lo.map ρ) (hi.map ρ)).t,.aP l',(mB (.d (.slice size els)) (lo.map ρ) (hi.map ρ)).ob⟩ else .bad
   | _=> .bad)
  | some ⟨_,_,_,.array n e⟩,.d (.box (.agg cs))=>if lo.isNone=true∧hi.isNone=true then wy V.E n e cs else .bad
  | _,_=> .bad)
 | .slice t x lo hi (some mx)=>(match V.E t,ρ x with
  | some ⟨_,_,_,.slice e⟩,.row id=>pf V.E e l id (lo.map ρ) (hi.map ρ) (ρ mx)
  | _,_=> .bad)
 | .build t parts=>(match V.E t with
  | some ⟨_,_,z,.struct fs⟩=>if fs.all (fun f=>(V.E f.2).isSome)=true then(match oy (yt V.E fs) (z.map lU) (parts.toList.map fun p=>(p.1,ρ p.2)) with | some cs=> .ok (jy true cs) | none=> .bad) else .bad
  | some ⟨_,_,z,.array _ e⟩=>if(V.E e).isSome=true then(match oy (fun i=>some (i*bq V.E e,bq V.E e)) (z.map lU) (parts.toList.map fun p=>(p.1,ρ p.2)) with | some cs=> .ok (jy true cs) | none=> .bad) else .bad
  | _=> .bad)
 | .buildSlice t len parts=>(match V.E t with
  | some ⟨_,_,_,.slice e⟩=>
   if(
     V.E e).isSome=true∧0 < bq V.E e then
    (if len=0 then⟨.row nid,.aP (l++[.row e (bq V.E e) []]),parts.toList.isEmpty=true⟩
    else(match parts.toList.mapM (fun p=>kj (ρ p.2)) with
     | some ds=>if parts.toList.map (·.1)=List.range len∧len*bq V.E e≤16777216∧ds.all (fun d=>d.cells.length == bq V.E e&&d.cells.all D.one)=true then .ok (.d (.slice (bq V.E e) ds)) else .bad
     | none=>(match gG l (parts.toList.map fun p=>ρ p.2) with
      | some (ds,l')=>if parts.toList.map (·.1)=List.range len∧len*bq V.E e≤16777216∧ds.all (fun d=>d.cells.length == bq V.E e&&d.cells.all D.one)=true then⟨.d (.slice (bq V.E e) ds),.aP l',True⟩ else .bad
      | none=> .bad)))
   else .bad
  | _=> .bad)
 | .extract x i=>(match ρ x with
  | .d (.aI ds)=>(match ds[i]? with | some d=> .ok (.d d) | none=> .bad)
  | .aI ts=>(match ts[i]? with | some t=> .ok t | none=> .bad)
  | _=> .bad)
 | .call c=>(match c.callee with
  | .value f=>(match ρ f with
   | .d (.fn g)=>xc V g l (iA V.E c.argTypes.toList (c.args.toList.map ρ))
   | .d (.aL g ds)=>xc V g l (iA V.E c.argTypes.toList (c.args.toList.map ρ)++ds.map .d)
   | _=> .bad)
  | .builtin .len=>(match c.args.toList,c.argTypes.toList with | [x],[t]=>nd V.E t l (ρ x) | _,_=> .bad)
  | .builtin .append=>(match c.args.toList,c.argTypes.toList with
   | [s,x],[t,t']=>if t=t' then kE V.E t l nid (ρ s) (ρ x) else .bad
   | _,_=> .bad)
  | .builtin .clear=>(match c.args.toList,c.argTypes.toList with | [x],[t]=>qJ V.E t l (ρ x) | _,_=> .bad)
  | .builtin .delete=>(match c.args.toList,c.argTypes.toList with | [x,k],[t,_]=>rF V.E t l (ρ x) (ρ k) | _,_=> .bad)
  | .builtin .max=>(match c.args.toList.map ρ with | [.d (.int k a),.d (.int k' b)]=>if k=k' then .ok (.d (.int k (max a b))) else .bad | _=> .bad)
  | .builtin .min=>(match c.args.toList.map ρ with | [.d (.int k a),.d (.int k' b)]=>if k=k' then .ok (.d (.int k (min a b))) else .bad | _=> .bad)
  | _=> .bad)
 | .makeMap _ none=>⟨.map nid,.aP (l++[.map [] []]),True⟩
 | .mapUpdate t m k x | .insert t m k x=>yv V.E t l (ρ m) (ρ k) (ρ x)
 | .lookup t x k ok=>vF V.E t l (ρ x) (ρ k) ok
 | .index t x i=>AH V.E t (ρ x) (ρ i)
 | .convert src t x=>uw V.E src t (ρ x)
 | .makeFunc (.func g) first cV=>if first.isEmpty=true then .ok (pz g (cV.toList.map ρ)) else .bad
 | .range t x=>GO V.E t l nid (ρ x)
 | .entry x=>Dq l (ρ x)
 | .makeSlice t a b=>rE V.E t l nid (ρ a) (ρ b)
 | _=> .bad
end Go.aj
namespace Go.aj
open Go Go.RowKit
variable [bh]
theorem FG {B:Nat} {w w':World} {e:TypeId} {size n:Nat} {v:Value} {xs:List Value} (h:w.ownsRow B e size v n xs) (hw:∀ b,own v=some b→w'.heap[b]?=w.heap[b]?):w'.ownsRow B e size v n xs:=by
 refine⟨h.1,?_⟩
 rcases h.2 with hn | ⟨g,cap,cur,rfl,hb,hg,rest⟩
 ·exact .inl hn
 exact .inr ⟨g,cap,cur,rfl,hb,(hw g rfl).trans hg,rest⟩
theorem dH.Fo {w:World} {I:aw} {B:Nat} {e:TypeId} {size n:Nat} {v:Value} {xs:List Value} {b:Nat} (h:dH w I) (k:w.ownsRow B e size v n xs) (hb:own v=some b):¬ I.df b:=by
 rcases k.2 with ⟨rfl,_⟩ | ⟨g,cap,cur,rfl,_,hg,_⟩
 ·cases hb
 simp only[own,Option.some.injEq] at hb
 subst hb
 exact h.oS hg (by simp)
theorem jM.iZ {B:Nat} {w w':World} {I J:aw} {m m':Nat→Value} {l l':List AO} {v:Value} {o:AO} (hle:Le I m l J m' l') (hw:∀ b,own v=some b→w'.heap[b]?=w.heap[b]?)
  (hI:∀ b,own v=some b→J.cell b=I.cell b∧J.mp b=I.mp b) (h:jM B w I m l v o):jM B w' J m' l' v o:=by
 cases o with
 | dead=>trivial
 | var ty cs=>
  obtain⟨b,vs,rfl,h1,h2,h3,h4,h5⟩:=h
  refine⟨b,vs,rfl,h1,(hw b rfl).trans h2,h3,fun i x t hx ht=>⟨(h4 i x t hx ht).1.mono hle,(h4 i x t hx ht).2⟩,?_⟩
  obtain⟨e1,e2⟩:=hI b rfl
  exact⟨fun o=>by rw[e1];exact h5.1 o,e2.trans h5.2⟩
 | row e size els=>
  obtain⟨xs,h1,h2,h3,h4⟩:=h
  refine⟨xs,FG h1 hw,h2,fun j x y hx hy=>(h3 j x y hx hy).mono hle.eF,fun b hb=>?_⟩
  obtain⟨e1,e2⟩:=hI b hb
  exact⟨fun o=>by rw[e1];exact(h4 b hb).1 o,e2.trans (h4 b hb).2⟩
 | bx e size els=>
  obtain⟨xs,h1,h2,h3,h4⟩:=h
  refine⟨xs,FG h1 hw,h2,fun j x y hx hy=>(h3 j x y hx hy).mono hle.eF,fun b hb=>?_⟩
  obtain⟨e1,e2⟩:=hI b hb
  obtain⟨k1,k2,k3⟩:=h4 b hb
  exact⟨e2.trans k1,fun j x hx=>by rw[e1];exact k2 j x hx,fun j hj=>by rw[e1];exact k3 j hj⟩
 | map ks vs=>
  obtain⟨b,es,rfl,h1,h2,h3,h4,h5,h6,h7⟩:=h
  obtain⟨e1,e2⟩:=hI b rfl
  exact⟨b,es,rfl,h1,gd.to (hw b rfl) h2,h3,h4,fun i e d he hd=>(h5 i e d he hd).mono hle.eF,fun i e d he hd=>(h6 i e d he hd).mono hle.eF,fun o=>by rw[e1];exact h7.1 o,e2.trans h7.2⟩
 | eP ks vs=>
  obtain⟨b,es,rfl,h1,h2,h3,h4,h5,h6,h7,h8⟩:=h
  obtain⟨e1,e2⟩:=hI b rfl
  exact⟨b,es,rfl,h1,gd.to (hw b rfl) h2,h3,h4,fun i e d he hd=>(h5 i e d he hd).mono hle.eF,fun i e d he hd=>(h6 i e d he hd).mono hle.eF,fun o=>by rw[e1];exact h7 o,e2.trans h8⟩
 | iter ks vs done=>
  obtain⟨b,mb,es,seen,rfl,h1,h2,h3,h4,h5,h6,h7,h8,h9⟩:=h
  obtain⟨e1,e2⟩:=hI b rfl
  exact⟨b,mb,es,seen,rfl,h1,(hw b rfl).trans h2,⟨fun r hr=>hle.eF.mp _ _ (h3.1 r hr),h3.2⟩,h4,h5,fun i e d he hd=>(h6 i e d he hd).mono hle.eF,fun i e d he hd=>(h7 i e d he hd).mono hle.eF,h8,fun o=>by rw[e1];exact h9.1 o,e2.trans h9.2⟩
 | frame base vals t=>exact⟨h.1,Nat.le_trans h.2.1 hle.len,fun k=>(h.2.2 k).mono (hle.take base)⟩
 | loop base n ps bp body t st eu=>
  obtain⟨b,r,rfl,h1,h2,h3,h4,h5,h6⟩:=h
  obtain⟨e1,e2⟩:=hI b rfl
  exact⟨b,r,rfl,h1,(hw b rfl).trans h2,h3,Nat.le_trans h4 hle.len,fun k=>(h5 k).mono (hle.take base),fun o=>by rw[e1];exact h6.1 o,e2.trans h6.2⟩
theorem jM.lt {B:Nat} {w:World} {I:aw} {m:Nat→Value} {l:List AO} {v:Value} {o:AO} (h:jM B w I m l v o) (ho:o ≠ .dead) {b:Nat} (hb:own v=some b):b < w.heap.size∧B≤b:=by
 cases o with
 | dead=>exact absurd rfl ho
 | var ty cs=>
  obtain⟨b',vs,rfl,h1,h2,_⟩:=h
  simp only[own,Option.some.injEq] at hb
  subst hb
  exact⟨(Array.getElem?_eq_some_iff.1 h2).1,h1⟩
 | row e size els=>
  obtain⟨xs,h1,_⟩:=h
  rcases h1.2 with ⟨rfl,_⟩ | ⟨g,cap,cur,rfl,bI,hg,_⟩
  ·simp[own] at hb
  simp only[own,Option.some.injEq] at hb
  subst hb
  exact⟨(Array.getElem?_eq_some_iff.1 hg).1,bI⟩
 | bx e size els=>
  obtain⟨xs,h1,_⟩:=h
  rcases h1.2 with ⟨rfl,_⟩ | ⟨g,cap,cur,rfl,bI,hg,_⟩
  ·simp[own] at hb
  simp only[own,Option.some.injEq] at hb
  subst hb
  exact⟨(Array.getElem?_eq_some_iff.1 hg).1,bI⟩
 | map ks vs=>
  obtain⟨b',es,rfl,h1,h2,_⟩:=h
  simp only[own,Option.some.injEq] at hb
  subst hb
  exact⟨(Array.getElem?_eq_some_iff.1 h2.1).1,h1⟩
 | eP ks vs=>
  obtain⟨b',es,rfl,h1,h2,_⟩:=h
  simp only[own,Option.some.injEq] at hb
  subst hb
  exact⟨(Array.getElem?_eq_some_iff.1 h2.1).1,h1⟩
 | iter ks vs done=>
  obtain⟨b',mb,es,seen,rfl,h1,h2,_⟩:=h
  simp only[own,Option.some.injEq] at hb
  subst hb
  exact⟨(Array.getElem?_eq_some_iff.1 h2).1,h1⟩
 | frame base vals t=>rw[h.1] at hb;cases hb
 | loop base n ps bp body t st eu=>
  obtain⟨b',r,rfl,h1,h2,_⟩:=h
  simp only[own,Option.some.injEq] at hb
  subst hb
  exact⟨(Array.getElem?_eq_some_iff.1 h2).1,h1⟩
theorem jM.oS {B:Nat} {w:World} {I:aw} {m:Nat→Value} {l:List AO} {v:Value} {o:AO} (h:jM B w I m l v o) (hs:dH w I) (ho:o ≠ .dead) {b:Nat} (hb:own v=some b):¬ I.df b:=by
 cases o with
 | dead=>exact absurd rfl ho
 | var ty cs=>
  obtain⟨b',vs,rfl,h1,h2,_⟩:=h
  simp only[own,Option.some.injEq] at hb
  subst hb
  exact hs.oS h2 (by simp)
 | row e size els=>obtain⟨xs,h1,_⟩:=h;exact hs.Fo h1 hb
 | bx e size els=>obtain⟨xs,h1,_⟩:=h;exact hs.Fo h1 hb
 | map ks vs=>
  obtain⟨b',es,rfl,h1,h2,_⟩:=h
  simp only[own,Option.some.injEq] at hb
  subst hb
  exact hs.oS h2.1 (by simp)
 | eP ks vs=>
  obtain⟨b',es,rfl,h1,h2,_⟩:=h
  simp only[own,Option.some.injEq] at hb
  subst hb
  exact hs.oS h2.1 (by simp)
 | iter ks vs done=>
  obtain⟨b',mb,es,seen,rfl,h1,h2,_⟩:=h
  simp only[own,Option.some.injEq] at hb
  subst hb
  exact hs.oS h2 (by simp)
 | frame base vals t=>rw[h.1] at hb;cases hb
 | loop base n ps bp body t st eu=>
  obtain⟨b',r,rfl,h1,h2,_⟩:=h
  simp only[own,Option.some.injEq] at hb
  subst hb
  exact hs.oS h2 (by simp)
theorem bN {l:List AO} {id:Nat}:alive l id=true↔∃ o,l[id]?=some o∧o ≠ .dead:=by
 unfold alive isVar isRow
 cases h:l[id]? with
 | none=>simp
 | some o=>cases o<;>simp[AO.isVar,AO.isRow]
section
variable {w0 w w':World} {I0 I J:aw} {m:Nat→Value} {l:List AO}
theorem aF.call (h:aF w0 I0 w I m l) (hb:eB w.heap.size w w') (he:gE w.heap.size I J) (hs:dH w' J):aF w0 I0 w' J m l∧Le I m l J m l:=by
 have hle:Le I m l J m l:=⟨he.le (fun b hd=>h.sat.mr hd),Nat.le_refl _,fun _ _ k=>⟨k,rfl⟩,fun _ _ k=>⟨k,rfl⟩,fun _ _ _ els _ k=>⟨els,k⟩⟩
 refine⟨⟨h.below.trans (hb.mono h.below.size),hs,h.ext.trans he h.below.size,fun id o ho=>?_,h.sep⟩,hle⟩
 by_cases hd:o = .dead
 ·subst hd;trivial
 exact(h.obj id o ho).iZ hle (fun b bI=>hb.block b ((h.obj id o ho).lt hd bI).1) (fun b bI=>⟨he.cell b ((h.obj id o ho).lt hd bI).1,he.mp b ((h.obj id o ho).lt hd bI).1⟩)
def aP (m:Nat→Value) (id:Nat) (v:Value):Nat→Value:=fun k=>if k=id then v else m k
theorem fH (m:Nat→Value) (id:Nat) (v:Value):aP m id v id=v:=by simp[aP]
theorem cO (m:Nat→Value) {id k:Nat} (v:Value) (h:k≠id):aP m id v k=m k:=by simp[aP,h]
theorem Le.new {nid:Nat} {o:AO} {v:Value} (hn:l[nid]?=some .dead) (ho:o.isRow=false):Le I m l I (aP m nid v) (l.set nid o):=by
 have bc:∀ id,id≠nid→(l.set nid o)[id]?=l[id]?:=fun id h=>by rw[List.getElem?_set];simp[Ne.symm h]
 have aN:nid < l.length:=(List.getElem?_eq_some_iff.1 hn).1
 have ep:(l.set nid o)[nid]?=some o:=by rw[List.getElem?_set];simp[aN]
 refine⟨.refl I,by simp,fun id an hv=>?_,fun id an hr=>?_,fun id e size els an hh=>?_⟩
 ·have:id≠nid:=by rintro rfl;unfold isVar at hv;rw[hn] at hv;simp[AO.isVar] at hv
  refine⟨?_,cO m v this⟩
  unfold isVar;rw[bc id this];exact hv
 ·by_cases h:id=nid
  ·subst h;unfold isRow at hr;rw[ep] at hr;simp[ho] at hr
  refine⟨?_,cO m v h⟩
  unfold isRow at hr ⊢;rw[bc id h] at hr;exact hr
 by_cases h:id=nid
 ·subst h;rw[ep] at hh;rcases hh with hh | hh<;>(injection hh with hh;subst hh;simp[AO.isRow] at ho)
 rw[bc id h] at hh;exact⟨els,hh⟩
theorem aF.alloc (h:aF w0 I0 w I m l) (ob:Obj) {nid:Nat} {o:AO} {v:Value} (hn:l[nid]?=some .dead) (ho:o.isRow=false) (hv:own v=some w.heap.size)
  (cr:jM w0.heap.size (w.alloc ob) I (aP m nid v) (l.set nid o) v o):aF w0 I0 (w.alloc ob) I (aP m nid v) (l.set nid o):=by
 have hle:Le I m l I (aP m nid v) (l.set nid o):=Le.new hn ho
 have aN:nid < l.length:=(List.getElem?_eq_some_iff.1 hn).1
 have ep:(l.set nid o)[nid]?=some o:=by rw[List.getElem?_set];simp[aN]
 have bc:∀ id,id≠nid→(l.set nid o)[id]?=l[id]?:=fun id h=>by rw[List.getElem?_set];simp[Ne.symm h]
 have hold:∀ id,id≠nid→alive (l.set nid o) id=true→∀ b,own (m id)=some b→b < w.heap.size:=by
  intro id an ha b hb
  obtain⟨o',bK,hd⟩:=bN.1 ha
  rw[bc id an] at bK
  exact((h.obj id o' bK).lt hd hb).1
 refine⟨h.below.alloc h.below.size ob,⟨fun b o' u hc=>?_,fun b es hc=>?_,fun b hd=>(Below.heap_alloc w ob b (h.sat.mr hd)).trans (h.sat.df b hd),h.sat.dA⟩,h.ext,fun id o' bK=>?_,fun i j b cm hi hj cI cJ=>?_⟩
 ·rw[World.cell?_alloc_lt w ob _ (h.sat.lt hc)];exact h.sat.cell b o' u hc
 ·have hh:=h.sat.mp b es hc
  exact gd.to (Below.heap_alloc w ob b (h.sat.qb hc)) hh
 ·by_cases an:id=nid
  ·subst an;rw[ep] at bK;injection bK with bK;subst bK;rw[fH];exact cr
  rw[bc id an] at bK;rw[cO m v an]
  by_cases hd:o' = .dead
  ·subst hd;trivial
  exact(h.obj id o' bK).iZ hle (fun b hb=>Below.heap_alloc w ob b ((h.obj id o' bK).lt hd hb).1) (fun b _=>⟨rfl,rfl⟩)
 by_cases h1:i=nid
 ·subst h1;rw[fH] at cI;rw[cO m v (Ne.symm cm)] at cJ
  rw[hv] at cI;injection cI with cI
  have:=hold j (Ne.symm cm) hj b cJ;omega
 by_cases h2:j=nid
 ·subst h2;rw[fH] at cJ;rw[cO m v cm] at cI
  rw[hv] at cJ;injection cJ with cJ
  have:=hold i cm hi b cI;omega
 rw[cO m v h1] at cI;rw[cO m v h2] at cJ
 refine h.sep i j b cm ?_ ?_ cI cJ
 ·obtain⟨o',bK,hd⟩:=bN.1 hi;rw[bc i h1] at bK;exact bN.2 ⟨o',bK,hd⟩
 obtain⟨o',bK,hd⟩:=bN.1 hj;rw[bc j h2] at bK;exact bN.2 ⟨o',bK,hd⟩
theorem aF.push (h:aF w0 I0 w I m l):aF w0 I0 w I m (l++[.dead])∧Le I m l I m (l++[.dead]):=by
 have bc:∀ id,id < l.length→(l++[AO.dead])[id]?=l[id]?:=fun id an=>List.getElem?_append_left an
 have Sa:∀ (id:Nat) o,(l++[AO.dead])[id]?=some o→o=AO.dead∨l[id]?=some o:=by
  intro id o ho
  rcases Nat.lt_trichotomy id l.length with hl | hl | hl
  ·rw[bc id hl] at ho;exact .inr ho
  ·subst hl;simp at ho;exact .inl ho.symm
  rw[List.getElem?_eq_none (by simp;omega)] at ho;cases ho
 have hle:Le I m l I m (l++[.dead]):=by
  refine⟨.refl I,by simp,fun id an hv=>⟨?_,rfl⟩,fun id an hr=>⟨?_,rfl⟩,fun id e size els an hh=>⟨els,?_⟩⟩
  ·unfold isVar at hv ⊢;rw[bc id an];exact hv
  ·unfold isRow at hr ⊢;rw[bc id an] at hr;exact hr
  rw[bc id an] at hh;exact hh
 have cW:∀ id,alive (l++[AO.dead]) id=true→alive l id=true:=by
  intro id ha
  obtain⟨o,ho,hd⟩:=bN.1 ha
  rcases Sa id o ho with he | he
  ·exact absurd he hd
  exact bN.2 ⟨o,he,hd⟩
 refine⟨⟨h.below,h.sat,h.ext,fun id o ho=>?_,fun i j b cm hi hj=>h.sep i j b cm (cW i hi) (cW j hj)⟩,hle⟩
 rcases Sa id o ho with rfl | he
 ·trivial
 exact(h.obj id o he).iZ hle (fun _ _=>rfl) (fun _ _=>⟨rfl,rfl⟩)
end
end Go.aj
namespace Go.aj
open Go Go.RowKit
variable [bh]
def kL (P:Program) (t:TypeId):TD→Bool
 | .aH=>match P.underlying t with | some (.struct _) | some (.array _ _) | none=>false | _=>true
 | .eX k=>match P.underlying t with | some (.int k')=>k == k' | _=>false
 | .string=>match P.underlying t with | some .string=>true | _=>false
 | .slice e=>match P.underlying t with | some (.slice e')=>e == e' | _=>false
 | .struct fs=>match P.underlying t with | some (.struct gs)=>decide (fs=gs.toList.map fun f=>(f.offset,f.type)) | _=>false
 | .array n e=>match P.underlying t with | some (.array n' e')=>n == n'&&e == e' | _=>false
 | .map k e=>match P.underlying t with | some (.map k' e')=>k == k'&&e == e' | _=>false
def km:List Value→List D→Bool
 | [],[]=>true
 | v::vs,d::ds=>wN v d&&km vs ds
 | _,_=>false
def oO:Value→Bool
 | .agg _=>true
 | _=>false
def Cl (P:Program) (t:TypeId) (i:TI):Bool:=
 match P.info? t with
 | some x=>x.size == i.size&&x.bytes == i.bytes&&(match x.zero with | some z=>km z.cells.toList i.zero&&(oO z == i.desc.agg) | none=>false)&&kL P t i.desc&&decide (i.zero.length=i.size)
 | none=>false
def cp (P:Program) (E:cA):Prop:=∀ t i,E t=some i→Cl P t i=true
def gg (P:Program) (f:FuncId) (ds:List D) (r:D):Prop:=
 ∀ (w:World) (I:aw) (vs:Array Value),dH w I→vs.size=ds.length→(∀ (i:Nat) v d,vs[i]?=some v→ds[i]?=some d→Rd I v d) →
  Calls P f vs w fun e w'=>∃ v J,e = .returned v∧eB w.heap.size w w'∧gE w.heap.size I J∧dH w' J∧Rd J v r
def Enters (P:Program) (f:FuncId):Prop:=∀ (args:Array Value) (w:World),(callFunc f args).run P w = .ok (.enter f args) w
def NZ (P:Program) (C:Cz):Prop:=∀ f ds r ob,C f ds=some (r,ob)→ob→Enters P f∧gg P f ds r
def CB (P:Program) (g:FuncId) (ts:List T) (l:List AO) (t:T) (l':List AO):Prop:=
 ∀ (w0:World) (I0:aw) (w:World) (I:aw) (m:Nat→Value) (args:Array Value),aF w0 I0 w I m l→args.size=ts.length→(∀ (i:Nat) v x,args[i]?=some v→ts[i]?=some x→aq I m l v x) →
  Calls P g args w fun e w'=>∃ v,e = .returned v∧∃ J m',Le I m l J m' l'∧aF w0 I0 w' J m' l'∧aq J m' l' v t
def X5 (P:Program) (F:N0):Prop:=∀ g ts l r,F g ts l=some r→r.ob→Enters P g∧CB P g ts l r.t r.l
def qC (P:Program) (g:FuncId) (ts:List T) (l:List AO) (K:T→List AO→Prop):Prop:=
 Enters P g∧∀ (w0:World) (I0:aw) (w:World) (I:aw) (m:Nat→Value) (args:Array Value) (vals:Nat→Value) (ft:Tm),aF w0 I0 w I m l→args.size=ts.length→(∀ (i:Nat) v x,args[i]?=some v→ts[i]?=some x→aq I m l v x)→(∀ k,aq I m l (vals k) (get ft k)) →
  Calls P g args w fun e w'=>∃ v,e = .returned v∧∃ t l' J m',K t l'∧aF w0 I0 w' J m' l'∧aq J m' l' v t∧(∀ b,I.df b→J.df b)∧∀ k,aq J m' l' (vals k) (get ft k)
theorem qC.mono {P:Program} {g:FuncId} {ts:List T} {l:List AO} {K K':T→List AO→Prop} (h:qC P g ts l K) (hk:∀ t l',K t l'→K' t l'):qC P g ts l K':=
 ⟨h.1,fun w0 I0 w I m args vals ft h1 h2 h3 h4=>(h.2 w0 I0 w I m args vals ft h1 h2 h3 h4).mono fun _ _ ⟨v,he,t,l',J,m',k1,k2⟩=>⟨v,he,t,l',J,m',hk t l' k1,k2⟩⟩
def ub (P:Program) (lO:TypeId→Option (List Lf)):Prop:=∀ t ls,lO t=some ls→∀ (op:BinOp) (x y:Operand) (I:aw) (u v:Value) (a b:D) (w:World),Rd I u a→Rd I v b →
 ((∃ p q,a = .bool p∧b = .bool q∧ls=[.bool])∨∃ xs ys,a = .agg xs∧b = .agg ys∧ls≠[.bool]∧iL ls xs=true∧iL ls ys=true)→(op = .eql∨op = .neq) →
 ((do eqGuard op t x y u v;binOp op t u v:Sem Value)).run P w = .ok (.bool (if op = .eql then jN a b else !(jN a b))) w
structure dI (P:Program) (V:Env):Prop where
 E:cp P V.E
 C:NZ P V.C
 eq:ub P V.lO
 F:X5 P V.F
 prog:V.P=P
def cz (P:Program) (r:Result Next) (Q:Value→World→Prop):Prop:=
 match r with
 | .ok (.value v) w'=>Q v w'
 | .ok .skip w'=>Q undef w'
 | .ok (.enter f args) w'=>Calls P f args w' fun e qt=>∃ v,e = .returned v∧Q v qt
 | _=>False
theorem cz.mono {P:Program} {r:Result Next} {Q Q':Value→World→Prop} (h:cz P r Q) (hq:∀ v w,Q v w→Q' v w):cz P r Q':=by
 unfold cz at *
 split at h
 ·exact hq _ _ h
 ·exact hq _ _ h
 ·exact h.mono fun e w ⟨v,he,hv⟩=>⟨v,he,hq _ _ hv⟩
 exact h.elim
class cd where
 r:Option Nat
 iZ:Nat→Prop
def eC [cd]:Fence:={ Fence.wide with round:=cd.r }
theorem si [cd] (f:FuncId):eC.fn f:=trivial
theorem Qn [cd] {P:Program} {f:FuncId} {args:Array Value} {w:World} {R:Ending→World→Prop} (h:Calls P f args w R) (n:Nat):CallsIn eC n P f args w R:=by
 unfold eC
 cases cd.r with
 | none=>exact(callsIn_wide (n:=n)).2 h
 | some l=>exact CallsIn.inRound l ((callsIn_wide (n:=n)).2 h)
theorem cz.wpIn [cd] {P:Program} {o:Oper} {a:Act} {w:World} {K:Act→World→Prop} {Q:Exit→Act→World→Prop} (fN:∀ c,o.op ≠ .defer c) (h:cz P ((execOp a.eval o).run P w) fun v w'=>K (a.put o.dst v) w'):o.wpIn eC 0 P a w K Q:=by
 unfold Oper.wpIn
 refine⟨fun _ _=>si _,?_⟩
 rw[Oper.semAt_eq _ _ _ fN]
 generalize (execOp a.eval o).run P w=r at *
 unfold cz at h
 split at h
 ·exact h
 ·exact h
 ·simp only[Oper.uponIn]
  refine⟨fun h=>by simp[eC,Fence.wide] at h,Qn (h.mono fun e w hv=>?_) _⟩
  obtain⟨v,he,hv⟩:=hv
  subst he;exact hv
 exact h.elim
section types
variable {P:Program} {E:cA} {t:TypeId} {i:TI}
theorem ga (h:Cl P t i=true):∃ x z,P.info? t=some x∧x.size=i.size∧x.bytes=i.bytes∧x.zero=some z∧km z.cells.toList i.zero=true∧oO z=i.desc.agg∧kL P t i.desc=true∧i.zero.length=i.size:=by
 unfold Cl at h
 cases hx:P.info? t with
 | none=>simp[hx] at h
 | some x=>
  simp only[hx,Bool.and_eq_true,beq_iff_eq,decide_eq_true_eq] at h
  obtain⟨⟨⟨⟨h1,h2⟩,h3⟩,h4⟩,h5⟩:=h
  cases hz:x.zero with
  | none=>simp[hz] at h3
  | some z=>
   simp only[hz,Bool.and_eq_true,beq_iff_eq] at h3
   exact⟨x,z,rfl,h1,h2,hz,h3.1,h3.2,h4,h5⟩
theorem mz (hE:cp P E) (h:E t=some i) (w:World):(sizeOf t).run P w = .ok i.size w:=by
 obtain⟨x,z,h1,h2,_⟩:=ga (hE t i h)
 simp[sizeOf,typeInfo,h1,h2]
theorem G2 (hE:cp P E) (h:E t=some i) (w:World):∃ z,(zeroValue t).run P w = .ok z w∧km z.cells.toList i.zero=true∧oO z=i.desc.agg∧i.zero.length=i.size:=by
 obtain⟨x,z,h1,h2,h3,h4,h5,h6,h7,h8⟩:=ga (hE t i h)
 exact⟨z,by simp[zeroValue,typeInfo,h1,h4],h5,h6,h8⟩
theorem mG (hE:cp P E) {s b:Nat} {z:List D} {e:TypeId} (h:E t=some ⟨s,b,z,.slice e⟩):P.underlying t=some (.slice e):=by
 obtain⟨x,z',h1,h2,h3,h4,h5,h6,h7,_⟩:=ga (hE t _ h)
 simp only[kL] at h7
 split at h7
 ·rename_i e' he;simp at h7;subst h7;exact he
 cases h7
theorem NG (hE:cp P E) {s b:Nat} {z:List D} (h:E t=some ⟨s,b,z,.string⟩):P.underlying t=some .string:=by
 obtain⟨x,z',h1,h2,h3,h4,h5,h6,h7,_⟩:=ga (hE t _ h)
 simp only[kL] at h7
 split at h7
 ·assumption
 cases h7
theorem Hq (hE:cp P E) {s b n:Nat} {z:List D} {e:TypeId} (h:E t=some ⟨s,b,z,.array n e⟩):P.underlying t=some (.array n e):=by
 obtain⟨x,z',h1,h2,h3,h4,h5,h6,h7,_⟩:=ga (hE t _ h)
 simp only[kL] at h7
 split at h7
 ·rename_i n' e' he;simp at h7;obtain⟨rfl,rfl⟩:=h7;exact he
 cases h7
theorem NH (hE:cp P E) {s b:Nat} {z:List D} {fs:List (Nat×TypeId)} (h:E t=some ⟨s,b,z,.struct fs⟩):∃ gs,P.underlying t=some (.struct gs)∧fs=gs.toList.map fun f=>(f.offset,f.type):=by
 obtain⟨x,z',h1,h2,h3,h4,h5,h6,h7,_⟩:=ga (hE t _ h)
 simp only[kL] at h7
 split at h7
 ·rename_i gs he;exact⟨gs,he,of_decide_eq_true h7⟩
 cases h7
theorem WK (hE:cp P E) (h:E t=some i) (w:World):(isAgg t).run P w = .ok i.desc.agg w:=by
 obtain⟨x,z',h1,h2,h3,h4,h5,h6,h7,_⟩:=ga (hE t _ h)
 unfold isAgg
 cases hu:P.underlying t with
 | none=>cases hd:i.desc<;>simp[hd,kL,hu] at h7
 | some d=>cases hd:i.desc<;>cases d<;>simp[hd,kL,hu] at h7<;>simp[run_underlying hu,TD.agg]
end types
theorem NV (I:aw) {v:Value} {d:D} (h:wN v d=true):Rd I v d∧d.one=true:=by
 unfold wN at h
 split at h
 all_goals first | (cases h;done) | skip
 all_goals try simp only[Bool.and_eq_true,beq_iff_eq] at h
 ·subst h;exact⟨.bool _,rfl⟩
 ·obtain⟨rfl,rfl⟩:=h;exact⟨.int _ _,rfl⟩
 ·have:=ByteArray.ext h;subst this;exact⟨.str _,rfl⟩
 ·exact⟨.lh _ _ _ (Nat.zero_le _),rfl⟩
 ·exact⟨.eY,rfl⟩
 ·exact⟨.tj,rfl⟩
 ·exact⟨.aG,rfl⟩
 exact⟨.qf,rfl⟩
theorem se (I:aw):∀ (vs:List Value) (ds:List D),km vs ds=true→vs.length=ds.length∧(∀ d∈ds,d.one=true)∧∀ (i:Nat) v d,vs[i]?=some v→ds[i]?=some d→Rd I v d
 | [],[],_=>⟨rfl,by simp,by simp⟩
 | v::vs,d::ds,h=>by
  simp only[km,Bool.and_eq_true] at h
  obtain⟨h1,h2,h3⟩:=se I vs ds h.2
  obtain⟨k1,k2⟩:=NV I h.1
  refine⟨by simp[h1],by simp[k2];exact h2,fun i x y hx hy=>?_⟩
  rcases i with _ | i
  ·simp at hx hy;subst hx;subst hy;exact k1
  simp at hx hy;exact h3 i x y hx hy
 | [],_::_,h=>by simp[km] at h
 | _::_,[],h=>by simp[km] at h
end Go.aj
namespace Go.aj
open Go Go.RowKit
variable [bh]
def fw (l L:List AO):Prop:=∀ (id:Nat),id < l.length→L[id]?=l[id]?
theorem fw.refl (l:List AO):fw l l:=fun _ _=>rfl
theorem fw.get {l L:List AO} (h:fw l L) {id:Nat} {o:AO} (ho:l[id]?=some o):L[id]?=some o:=(h id (List.getElem?_eq_some_iff.1 ho).1).trans ho
theorem Rd.FC {I:aw} {v:Value} {d:D} (h:Rd I v d) (hv:v.oneCell'=true):d.one=true:=by
 cases h<;>simp_all [D.one,Value.oneCell']
theorem GQ {I:aw} {m:Nat→Value} {L:List AO} {v:Value} {t:T} {x:D} (h:aq I m L v t) (hx:kj t=some x):Rd I v x:=by
 cases h<;>simp[kj] at hx
 ·subst hx;assumption
 subst hx;exact .lh _ _ _ (Nat.zero_le _)
theorem Wl {I:aw} {m:Nat→Value} {L:List AO}:∀ (vs:List Value) (ts:List T) (ds:List D),ts.mapM kj=some ds→vs.length=ts.length→(∀ (i:Nat) v t,vs[i]?=some v→ts[i]?=some t→aq I m L v t) →
  vs.length=ds.length∧∀ (i:Nat) v d,vs[i]?=some v→ds[i]?=some d→Rd I v d
 | [],[],ds,h,_,_=>by simp at h;subst h;simp
 | v::vs,t::ts,ds,h,hl,hr=>by
  simp only[List.mapM_cons,Option.bind_eq_bind,Option.bind_eq_some_iff,Option.pure_def,Option.some.injEq] at h
  obtain⟨x,hx,xs,dw,rfl⟩:=h
  obtain⟨h1,h2⟩:=Wl vs ts xs dw (by simpa using hl) (fun i v t hv ht=>hr (i+1) v t (by simpa using hv) (by simpa using ht))
  refine⟨by simp[h1],fun i u d hu hd=>?_⟩
  rcases i with _ | i
  ·simp at hu hd;subst hu;subst hd
   exact GQ (hr 0 v t rfl rfl) hx
  simp at hu hd;exact h2 i u d hu hd
 | [],_::_,_,_,hl,_=>by simp at hl
 | _::_,[],_,_,hl,_=>by simp at hl
theorem He {P:Program} {E:cA} {t:TypeId} {i:TI} (hE:cp P E) (h:E t=some i) (ha:i.desc.agg=false):i.size=1:=by
 obtain⟨x,z,h1,h2,h3,h4,h5,h6,h7,h8⟩:=ga (hE t i h)
 rw[ha] at h6
 have hz:z.cells.toList.length=1:=by cases z<;>simp_all [oO,Value.cells]
 have:=(se (I:=⟨fun _ _=>none,fun _=>none,fun _=>False⟩) _ _ h5).1
 omega
theorem WL {P:Program} {E:cA} {t:TypeId} {i:TI} (hE:cp P E) (h:E t=some i) (w:World) (b o:Nat) (cs:List Value) (hl:cs.length=i.size) (hc:w.rangeAt b o cs) :
  (Instr.loadAt t (.pointer (some ⟨b,o,none⟩))).run P w = .ok (if i.desc.agg then .agg cs.toArray else cs.headD undef) w:=by
 have hA:=WK hE h
 have hS:=mz hE h
 cases ha:i.desc.agg with
 | true=>
  have fB:(loadCells ⟨b,o,none⟩ cs.length).run P w = .ok cs.toArray w:=
   run_loadCells_list (P:=P) w ⟨b,o,none⟩ cs (fun j v hv=>by rw[Addr.add_mid];exact hc j v hv)
  simp only[Instr.loadAt,Instr.sureAddr,Sem.run_bind,Sem.run_pure,Result.andThen_ok,loadVar,hA,ha,hS,←hl,fB,if_true]
 | false=>
  have h1:=He hE h ha
  rw[h1] at hl
  match cs,hl with
  | [c],_=>
   have gx:w.cell? ⟨b,o,none⟩=some c:=by simpa using hc 0 c rfl
   simp[Instr.loadAt,Instr.sureAddr,Sem.run_bind,Result.andThen_ok,loadVar,hA,ha,gx,List.headD]
theorem aho {w:World} {b off n:Nat} {vs:Array Value} {ty:TypeId} {fr:Nat×Nat} (h:w.heap[b]?=some (.cells vs ty fr)):w.rangeAt b off ((vs.toList.drop off).take n):=by
 intro j v hv
 rw[List.getElem?_take] at hv
 split at hv
 ·rw[List.getElem?_drop] at hv
  simp only[World.cell?,h]
  simpa using hv
 cases hv
theorem QD:∀ (ts:List T) (ds:List D),ts.mapM gJ=some ds→ts.mapM kj=some ds
 | [],ds,h=>h
 | t::ts,ds,h=>by
  simp only[List.mapM_cons,Option.bind_eq_bind,Option.bind_eq_some_iff,Option.pure_def,Option.some.injEq] at h ⊢
  obtain⟨x,hx,xs,dw,rfl⟩:=h
  refine⟨x,?_,xs,QD ts xs dw,rfl⟩
  cases t<;>simp[gJ] at hx
  subst hx;rfl
theorem L2 {I:aw} {m:Nat→Value} {L:List AO} {i:TI} {vs:List Value} {ts:List T} (hl:vs.length=ts.length) (hn:vs.length=i.size) (h1:i.desc.agg=false→i.size=1)
  (hr:∀ (j:Nat) v t,vs[j]?=some v→ts[j]?=some t→aq I m L v t∧v.oneCell'=true):aq I m L (if i.desc.agg then .agg vs.toArray else vs.headD undef) (jy i.desc.agg ts):=by
 cases ha:i.desc.agg with
 | true=>
  simp only[if_true,jy]
  cases hm:ts.mapM gJ with
  | none=>
   refine .agg _ _ (by simpa using hl) (fun j v hv=>?_) (fun j v t hv ht=>(hr j v t (by simpa using hv) ht).1)
   have bQ:vs[j]?=some v:=by simpa using hv
   have hj:=(List.getElem?_eq_some_iff.1 bQ).1
   exact(hr j v _ bQ (List.getElem?_eq_getElem (by omega))).2
  | some ds=>
   obtain⟨k1,k2⟩:=Wl vs ts ds (QD ts ds hm) hl (fun j v t hv ht=>(hr j v t hv ht).1)
   refine .d _ _ (.agg _ _ (by simpa using k1) (fun d hd=>?_) (fun j v d hv hd=>k2 j v d (by simpa using hv) hd))
   obtain⟨j,hj,rfl⟩:=List.mem_iff_getElem.1 hd
   have hv:vs[j]?=some (vs[j]'(by omega)):=List.getElem?_eq_getElem (by omega)
   have ht:ts[j]?=some (ts[j]'(by omega)):=List.getElem?_eq_getElem (by omega)
   exact(k2 j _ _ hv (List.getElem?_eq_getElem hj)).FC (hr j _ _ hv ht).2
 | false=>
  have:=h1 ha
  match vs,ts,hl,(by omega:vs.length=1) with
  | [v],[t],_,_=>simpa [jy] using (hr 0 v t rfl rfl).1
theorem flat_get {size:Nat}:∀ (els:List D),(∀ d∈els,d.cells.length=size)→∀ (k j:Nat) (d:D),els[k]?=some d→j < size→(flat els)[k*size+j]?=d.cells[j]?
 | [],_,k,j,d,h,_=>by simp at h
 | e::els,hs,k,j,d,h,hj=>by
  have he:e.cells.length=size:=hs e (by simp)
  simp only[flat,List.flatMap_cons]
  rcases k with _ | k
  ·simp at h;subst h
   rw[List.getElem?_append_left (by omega)];simp
  simp at h
  rw[List.getElem?_append_right (by rw[he,Nat.add_mul];omega)]
  have:=flat_get els (fun d hd=>hs d (by simp[hd])) k j d h hj
  rw[he]
  rw[show(k+1)*size+j - size=k*size+j by rw[Nat.add_mul];omega]
  exact this
theorem jm {size:Nat}:∀ (els:List D),(∀ d∈els,d.cells.length=size)→(flat els).length=els.length*size
 | [],_=>by simp[flat]
 | e::els,hs=>by
  have:=jm els (fun d hd=>hs d (by simp[hd]))
  simp only[flat,List.flatMap_cons,List.length_append,List.length_cons] at *
  rw[hs e (by simp),this,Nat.add_mul];omega
theorem LG {P:Program} {E:cA} {ty:TypeId} {i:TI} (hE:cp P E) (h:E ty=some i) {w:World} {I:aw} {m:Nat→Value} {L:List AO} {b o size k off:Nat} {els:List D} {val:Nat→Value}
  (hs:∀ d∈els,d.cells.length=size∧∀ x∈d.cells,x.one=true)
  (hc:∀ j,j < els.length*size→w.cell? ⟨b,o+j,none⟩=some (val j)) (hr:∀ (j:Nat) x,(flat els)[j]?=some x→Rd I (val j) x) (ae:(kX i size els k off).ob) :
  (kX i size els k off).bn = .none∧∃ u,(Instr.loadAt ty (.pointer (some ⟨b,o+k*size+off,none⟩))).run P w = .ok u w∧aq I m L u (kX i size els k off).t:=by
 have bl:∀ d∈els,d.cells.length=size:=fun d hd=>(hs d hd).1
 have hk:k < els.length:=by unfold kX at ae;split at ae<;>exact ae.1
 have sM:els[k]?=some els[k]:=List.getElem?_eq_getElem hk
 have eV:fK els k=els[k]:=by simp[fK,sM]
 have xC:off+i.size≤size:=by
  unfold kX at ae;split at ae
  ·rename_i hh;omega
  exact ae.2
 have fM:els[k]∈els:=List.getElem_mem hk
 have ee:els[k].cells.length=size:=bl _ fM
 have hbound:∀ j,j < size→k*size+j < els.length*size:=fun j hj=>by
  have:(k+1)*size≤els.length*size:=Nat.mul_le_mul_right _ hk
  rw[Nat.add_mul] at this;omega
 have abT:w.rangeAt b (o+k*size+off) ((List.range i.size).map fun j=>val (k*size+(off+j))):=by
  intro j v hv
  simp only[List.getElem?_map] at hv
  by_cases hj:j < i.size
  ·simp[hj] at hv
   have:=hc (k*size+(off+j)) (hbound _ (by omega))
   rw[show o+k*size+off+j=o+(k*size+(off+j)) by omega,this,hv]
  simp[hj] at hv
 have abF:=WL hE h w b (o+k*size+off) _ (by simp) abT
 have sR:∀ j,j < i.size→∀ x,els[k].cells[off+j]?=some x→Rd I (val (k*size+(off+j))) x:=fun j hj x hx=>
  hr _ x ((flat_get els bl k (off+j) els[k] sM (by omega)).trans hx)
 have abO:∀ x∈els[k].cells,x.one=true:=(hs _ fM).2
 refine⟨by unfold kX;split<;>rfl,_,abF,?_⟩
 have nI:∀ ds:List D,ds=(els[k].cells.drop off).take i.size→aq I m L (if i.desc.agg then .agg ((List.range i.size).map fun j=>val (k*size+(off+j))).toArray else((List.range i.size).map fun j=>val (k*size+(off+j))).headD undef) (.d (fR i.desc.agg ds)):=by
  intro ds ff
  have hlen:ds.length=i.size:=by rw[ff,List.length_take,List.length_drop,ee];omega
  have bF:∀ (j:Nat) x,ds[j]?=some x→j < i.size∧els[k].cells[off+j]?=some x:=by
   intro j x hx
   have hj:j < i.size:=by rw[←hlen];exact(List.getElem?_eq_some_iff.1 hx).1
   rw[ff,List.getElem?_take,if_pos hj,List.getElem?_drop] at hx
   exact⟨hj,hx⟩
  cases ha:i.desc.agg with
  | true=>
   simp only[if_true,fR]
   refine .d _ _ (.agg _ _ (by simp[hlen]) (fun d hd=>?_) (fun j v d hv hd=>?_))
   ·rw[ff] at hd
    exact abO d (List.mem_of_mem_drop (List.mem_of_mem_take hd))
   obtain⟨hj,hx⟩:=bF j d hd
   have:v=val (k*size+(off+j)):=by
    simp[hj] at hv
    exact hv.symm
   rw[this];exact sR j hj d hx
  | false=>
   have h1:=He hE h ha
   rw[h1] at hlen ⊢
   match ds,hlen,bF with
   | [x],_,bF=>
    obtain⟨_,hx⟩:=bF 0 x rfl
    simp only[fR,List.headD,Bool.false_eq_true,if_false]
    exact .d _ _ (by simpa using sR 0 (by omega) x hx)
 by_cases hh:size=i.size∧off=0
 ·simp only[kX,if_pos hh] at ae ⊢
  have aK:size=i.size:=hh.1
  have ho:off=0:=hh.2
  have uP:xM (fK els k)=i.desc.agg:=ae.2
  have:=nI els[k].cells (by subst ho;rw[List.drop_zero,List.take_of_length_le (by omega)])
  rw[eV] at uP ⊢
  have hm:fR i.desc.agg els[k].cells=els[k]:=by
   cases he:els[k]<;>simp_all [xM,fR,D.cells]
  rw[hm] at this
  exact this
 simp only[kX,if_neg hh]
 rw[eV]
 exact nI _ rfl
section
variable {P:Program} {V:Env} {w0 w:World} {I0 I:aw} {m:Nat→Value} {l L:List AO}
theorem G0 {w:World} {B:Nat} {e:TypeId} {size n b c:Nat} {xs:List Value} (h:w.ownsRow B e size (.slice (some ⟨b,0,none⟩) n c) n xs):∀ (j:Nat) x,xs[j]?=some x→w.cell? ⟨b,j,none⟩=some x:=by
 intro j x hx
 rcases h.2 with ⟨hv,_⟩ | ⟨g,cap,cur,hv,hb,hg,h1,h2,h3,h4⟩
 ·cases hv
 injection hv with hv _ _;injection hv with hv;injection hv with hv;subst hv
 rw[←h4,List.getElem?_take] at hx
 split at hx
 ·simpa [World.cell?,hg] using hx
 cases hx
theorem WA {B:Nat} {v:Value} {e:TypeId} {size b n c:Nat} {els:List D} {xs:List Value} (h1:w.ownsRow B e size v els.length xs) (hv:v = .slice (some ⟨b,0,none⟩) n c):els.length=n∧∀ (j:Nat) x,xs[j]?=some x→w.cell? ⟨b,j,none⟩=some x:=by
 have hn:els.length=n:=by
  rcases h1.2 with ⟨q,_⟩ | ⟨g,cap,cur,q,_⟩<;>rw[q] at hv
  ·cases hv
  injection hv
 subst hn;subst hv
 exact⟨rfl,G0 h1⟩
theorem Uw (hE:cp P V.E) (ah:aF w0 I0 w I m L) (hc:fw l L) {ty:TypeId} {v:Value} {x:T} (hx:aq I m L v x) (ae:(iu V.E ty l x).ob) :
  (iu V.E ty l x).bn = .none∧∃ u,(Instr.loadAt ty v).run P w = .ok u w∧aq I m L u (iu V.E ty l x).t:=by
 cases hx with
 | ptr id b off hv hm=>
  simp only[iu] at ae ⊢
  cases hi:V.E ty with
  | none=>simp[hi,R.bad] at ae
  | some i=>
   cases ho:l[id]? with
   | none=>simp[hi,ho,R.bad] at ae
   | some o=>
    cases o with
    | var t' cs=>
     simp only[hi,ho] at ae ⊢
     split at ae
     ·rename_i hle
      rw[if_pos hle]
      obtain⟨b',vs,bQ,h1,h2,h3,h4,h5⟩:=ah.obj id _ (hc.get ho)
      rw[hm] at bQ;injection bQ with bQ;injection bQ with bQ;injection bQ with bQ;subst bQ
      have hlen:((vs.toList.drop off).take i.size).length=i.size:=by simp;omega
      refine⟨rfl,_,WL hE hi w b off _ hlen (aho h2),?_⟩
      refine L2 (by simp;omega) hlen (He hE hi) (fun j v t hv ht=>?_)
      rw[List.getElem?_take] at hv ht
      split at hv
      ·rename_i hj
       rw[if_pos hj] at ht
       rw[List.getElem?_drop] at hv ht
       exact h4 (off+j) v t (by simpa using hv) ht
      cases hv
     simp[R.bad] at ae
    | _=>simp[hi,ho,R.bad] at ae
 | bw b o size els k off val h1 h2 h3 h4=>
  simp only[iu] at ae ⊢
  cases hi:V.E ty with
  | none=>simp[hi,R.bad] at ae
  | some i=>
   simp only[hi] at ae ⊢
   exact LG hE hi h2 (fun j hj=>ah.sat.cell _ _ _ (h3 j hj)) h4 ae
 | bf a id k off h1 h2=>
  simp only[iu] at ae ⊢
  cases hi:V.E ty with
  | none=>simp[hi,R.bad] at ae
  | some i=>
   cases ho:l[id]? with
   | none=>simp[hi,ho,R.bad] at ae
   | some o=>
    cases o with
    | row e size els=>
     simp only[hi,ho] at ae ⊢
     obtain⟨b,n,c,q1,rfl⟩:=h2 e size els (.inl (hc.get ho))
     obtain⟨xs,k1,k2,k3,k4⟩:=ah.obj id _ (hc.get ho)
     obtain⟨hn,gx⟩:=WA k1 q1
     have j1:xs.length=els.length*size:=k1.1
     have:=LG (P:=P) (I:=I) (m:=m) (L:=L) (w:=w) (b:=b) (o:=0) (k:=k) (off:=off) (val:=fun j=>(xs[j]?).getD undef) hE hi k2
      (
       fun j hj=>by rw[Nat.zero_add];exact gx j _ (by simp[j1,hj])) (fun j x hx=>by
       have nN:j < els.length*size:=by rw[←jm els (fun d hd=>(k2 d hd).1)];exact(List.getElem?_eq_some_iff.1 hx).1
       have dw:xs[j]?=some (xs[j]'(by omega)):=List.getElem?_eq_getElem (by omega)
       rw[dw];exact k3 j _ x dw hx) ae
     simpa using this
    | bx e size els=>
     simp only[hi,ho] at ae ⊢
     obtain⟨b,n,c,q1,rfl⟩:=h2 e size els (.inr (hc.get ho))
     obtain⟨xs,k1,k2,k3,k4⟩:=ah.obj id _ (hc.get ho)
     obtain⟨hn,gx⟩:=WA k1 q1
     have j1:xs.length=els.length*size:=k1.1
     have:=LG (P:=P) (I:=I) (m:=m) (L:=L) (w:=w) (b:=b) (o:=0) (k:=k) (off:=off) (val:=fun j=>(xs[j]?).getD undef) hE hi k2
      (
       fun j hj=>by rw[Nat.zero_add];exact gx j _ (by simp[j1,hj])) (fun j x hx=>by
       have nN:j < els.length*size:=by rw[←jm els (fun d hd=>(k2 d hd).1)];exact(List.getElem?_eq_some_iff.1 hx).1
       have dw:xs[j]?=some (xs[j]'(by omega)):=List.getElem?_eq_getElem (by omega)
       rw[dw];exact k3 j _ x dw hx) ae
     simpa using this
    | _=>simp[hi,ho,R.bad] at ae
 | _=>simp[iu,R.bad] at ae
end
end Go.aj
namespace Go.aj
open Go Go.RowKit
variable [bh]
section
variable {P:Program} {V:Env} {w0 w:World} {I0 I:aw} {m:Nat→Value} {l L:List AO}
theorem nV {l:List AO} {id:Nat} {o o':AO} (h:l[id]?=some o) (hv:o.isVar=o'.isVar) (k:Nat):isVar (l.set id o') k=isVar l k:=by
 unfold isVar
 by_cases hk:k=id
 ·subst hk
  rw[List.getElem?_set,if_pos rfl,if_pos (List.getElem?_eq_some_iff.1 h).1,h];simp[hv]
 rw[List.getElem?_set,if_neg (Ne.symm hk)]
theorem nU {l:List AO} {id:Nat} {o o':AO} (h:l[id]?=some o) (hv:o.isRow=o'.isRow) (k:Nat):isRow (l.set id o') k=isRow l k:=by
 unfold isRow
 by_cases hk:k=id
 ·subst hk
  rw[List.getElem?_set,if_pos rfl,if_pos (List.getElem?_eq_some_iff.1 h).1,h];simp[hv]
 rw[List.getElem?_set,if_neg (Ne.symm hk)]
theorem Le.W0 {id:Nat} {ty qp:TypeId} {cs fc:List T} (h:l[id]?=some (.var ty cs)):Le I m l I m (l.set id (.var qp fc)):=by
 refine⟨.refl I,by simp,fun k _ hk=>⟨(nV (o':= .var qp fc) h rfl k).trans hk,rfl⟩,fun k _ hk=>⟨(nU (o':= .var qp fc) h rfl k).symm.trans hk,rfl⟩,fun k e size els hk hh=>⟨els,?_⟩⟩
 by_cases dD:k=id
 ·subst dD;rw[List.getElem?_set,if_pos rfl,if_pos (List.getElem?_eq_some_iff.1 h).1] at hh;simp at hh
 rw[List.getElem?_set,if_neg (Ne.symm dD)] at hh;exact hh
theorem Np (hE:cp P V.E) (ah:aF w0 I0 w I m l) {id off b:Nat} {ty t':TypeId} {cs:List T} {x:T} {v:Value} (ho:l[id]?=some (.var t' cs)) (hm:m id = .pointer (some ⟨b,0,none⟩))
  (hx:aq I m l v x) (h1:(bu x).all T.iM=true) (hn:(bu x).length=bq V.E ty) (bO:0 < (bu x).length) (hle:off+(bu x).length≤cs.length) :
  ∃ w',(Instr.storeAt ty (.pointer (some ⟨b,off,none⟩)) v).run P w = .ok () w'∧aF w0 I0 w' I m (l.set id (.var t' (setAt cs off (bu x)))):=by
 obtain⟨b',vs,bQ,k1,k2,k3,k4,k5⟩:=ah.obj id _ ho
 rw[hm] at bQ;injection bQ with bQ;injection bQ with bQ;injection bQ with bQ;subst bQ
 have nI:v.cells.toList.length=(bu x).length∧(∀ u∈v.cells.toList,u.oneCell'=true)∧∀ (i:Nat) u t,v.cells.toList[i]?=some u→(bu x)[i]?=some t→aq I m l u t:=by
  have one:∀ (u:Value),u.oneCell'=true→u.cells.toList=[u]:=fun u hu=>by cases u<;>simp_all [Value.oneCell',Value.cells]
  have single:∀ (t:T),bu t=[t]→aq I m l v t→v.oneCell'=true→v.cells.toList.length=(bu t).length∧(∀ u∈v.cells.toList,u.oneCell'=true)∧∀ (i:Nat) u s,v.cells.toList[i]?=some u→(bu t)[i]?=some s→aq I m l u s:=by
   intro t ht hr hv
   rw[one v hv,ht]
   refine⟨rfl,by simpa using hv,fun i u s hu hs=>?_⟩
   rcases i with _ | i
   ·simp at hu hs;subst hu;subst hs;exact hr
   simp at hu
  cases hx with
  | undef=>simp[bu,T.iM] at h1
  | d _ d hd=>
   by_cases ht:∃ ds,d = .aI ds
   ·obtain⟨ds,rfl⟩:=ht;simp[bu,D.cells,T.iM,D.one] at h1
   obtain⟨q1,q2,q3⟩:=hd.cells (fun ds e=>ht ⟨ds,e⟩)
   refine⟨by simp[bu,q1],fun u hu=>?_,fun i u t hu oJ=>?_⟩
   ·obtain⟨i,hi,rfl⟩:=List.mem_iff_getElem.1 hu
    have dN:i < d.cells.length:=by simp at hi;omega
    exact(q3 i _ d.cells[i] (by rw[←Array.getElem?_toList];exact List.getElem?_eq_getElem hi) (List.getElem?_eq_getElem dN)).one (q2 _ (List.getElem_mem dN))
   simp only[bu,List.getElem?_map] at oJ
   cases aS:d.cells[i]? with
   | none=>simp[aS] at oJ
   | some y=>
    simp[aS] at oJ
    subst oJ
    exact .d _ _ (q3 i u y (by simpa using hu) aS)
  | bC s=>exact single _ rfl (.bC s) rfl
  | ptr id b off q1 q2=>exact single _ rfl (.ptr id b off q1 q2) rfl
  | bw b o size els k off val q1 q2 q3 q4=>exact single _ rfl (.bw b o size els k off val q1 q2 q3 q4) rfl
  | aI=>simp[bu,T.iM] at h1
  | cond=>simp[bu,T.iM] at h1
  | row A n c id q1 q2=>exact single _ rfl (.row A n c id q1 q2) rfl
  | bD A n c id x q1 q2 q3=>exact single _ rfl (.bD A n c id x q1 q2 q3) rfl
  | bf a id k off q1 q2=>exact single _ rfl (.bf a id k off q1 q2) rfl
  | map r id q1 q2=>exact single _ rfl (.map r id q1 q2) rfl
  | aL g vs ts q1 q2=>exact single _ rfl (.aL g vs ts q1 q2) rfl
  | bd id b q1 q2=>exact single _ rfl (.bd id b q1 q2) rfl
  | bL id b n c q1 q2 q3 q4=>exact single _ rfl (.bL id b n c q1 q2 q3 q4) rfl
  | sub A n c id lo hi q1 q2=>exact single _ rfl (.sub A n c id lo hi q1 q2) rfl
  | agg vs ts q1 q2 q3=>
   refine⟨by simp[bu,Value.cells,q1],fun u hu=>?_,fun i u t hu ht=>q3 i u t (by simpa [Value.cells] using hu) (by simpa [bu] using ht)⟩
   obtain⟨i,hi,rfl⟩:=List.mem_iff_getElem.1 hu
   simp only[Value.cells] at hi ⊢
   exact q2 i _ (by rw[←Array.getElem?_toList];exact List.getElem?_eq_getElem hi)
 obtain⟨c1,c2,c3⟩:=nI
 have jv:(sizeOf ty).run P w = .ok v.cells.size w:=by
  cases hi:V.E ty with
  | none=>simp only[bq,hi,Option.map_none,Option.getD_none] at hn;omega
  | some i=>
   rw[mz hE hi w]
   simp only[bq,hi,Option.map_some,Option.getD_some] at hn
   rw[Array.length_toList] at c1;congr 1;omega
 have c7:=run_storeCells_at P b off t' v.cells.toList 0 vs w k2 (by rw[k3];omega) c2
 refine⟨_,by simp only[Instr.storeAt,Instr.sureAddr,Sem.run_bind,Sem.run_pure,Result.andThen_ok,storeVar,jv,ne_eq,not_true_eq_false,if_false,c7];rfl,?_⟩
 simp only[Nat.add_zero]
 generalize fo:(vs.toList.take off++v.cells.toList++vs.toList.drop (off+v.cells.toList.length)).toArray=new
 have aN:b < w.heap.size:=(Array.getElem?_eq_some_iff.1 k2).1
 have abu:(w.setRow b new).heap[b]?=some (.cells new t' (0,0)):=setRow_heap w b vs new t' (0,0) k2
 have Sx:Le I m l I m (l.set id (.var t' (setAt cs off (bu x)))):=Le.W0 ho
 have jV:id < l.length:=(List.getElem?_eq_some_iff.1 ho).1
 refine⟨ah.below.trans ⟨rfl,rfl,rfl,by simp,fun k hk=>setRow_other w b _ new (by omega),fun _=>Nat.le_refl _⟩,⟨fun b' o u hc=>?_,fun b' es hc=>?_,fun b' hd=>(setRow_other w b _ new (fun e=>by subst e;exact ah.sat.oS k2 (by simp) hd)).trans (ah.sat.df b' hd),ah.sat.dA⟩,ah.ext,fun j o hj=>?_,fun i j b' cm hi hj cI cJ=>?_⟩
 ·have bc:b'≠b:=by rintro rfl;rw[k5.1] at hc;cases hc
  have:=ah.sat.cell b' o u hc
  exact(World.cell?_of_block (w:=w) (a:=⟨b',o,none⟩) (setRow_other w b _ new bc)).trans this
 ·have bc:b'≠b:=by rintro rfl;rw[k5.2] at hc;cases hc
  have hh:=ah.sat.mp b' es hc
  exact gd.to (setRow_other w b _ new bc) hh
 ·by_cases eQ:j=id
  ·subst eQ
   rw[List.getElem?_set,if_pos rfl,if_pos jV] at hj
   injection hj with hj;subst hj
   refine⟨b,new,hm,k1,abu,?_,fun i u t hu ht=>?_,k5⟩
   ·subst fo;simp[setAt,k3,List.length_append,List.length_take,List.length_drop] at c1 ⊢;omega
   subst fo
   have key:∀ (i:Nat),(vs.toList.take off++v.cells.toList++vs.toList.drop (off+v.cells.toList.length))[i]?=some u→(setAt cs off (bu x))[i]?=some t→aq I m l u t∧u.oneCell'=true:=by
    intro i hu ht
    have l1:(vs.toList.take off).length=off:=by simp;omega
    have l2:(cs.take off).length=off:=by simp;omega
    rw[List.append_assoc,List.getElem?_append] at hu
    rw[setAt,List.append_assoc,List.getElem?_append] at ht
    rw[l1] at hu;rw[l2] at ht
    by_cases hi:i < off
    ·rw[if_pos hi] at hu ht
     rw[List.getElem?_take,if_pos hi] at hu ht
     exact k4 i u t (by simpa using hu) ht
    rw[if_neg hi] at hu ht
    rw[List.getElem?_append] at hu ht
    rw[c1] at hu
    by_cases gy:i - off < (bu x).length
    ·rw[if_pos gy] at hu ht
     refine⟨c3 _ u t hu ht,c2 u ?_⟩
     exact List.mem_of_getElem? hu
    rw[if_neg gy] at hu ht
    rw[List.getElem?_drop] at hu ht
    exact k4 _ u t (by simpa using hu) ht
   have:=key i (by simpa using hu) ht
   exact⟨this.1.mono Sx,this.2⟩
  rw[List.getElem?_set,if_neg (Ne.symm eQ)] at hj
  by_cases hd:o = .dead
  ·subst hd;trivial
  refine(ah.obj j o hj).iZ Sx (fun b' bI=>setRow_other w b _ new ?_) (fun _ _=>⟨rfl,rfl⟩)
  rintro rfl
  exact ah.sep j id b' eQ (bN.2 ⟨o,hj,hd⟩) (bN.2 ⟨_,ho,by simp⟩) bI (by rw[hm];rfl)
 refine ah.sep i j b' cm ?_ ?_ cI cJ
 ·unfold alive at hi ⊢;rwa [nV (o':= .var t' (setAt cs off (bu x))) ho rfl,nU (o':= .var t' (setAt cs off (bu x))) ho rfl] at hi
 unfold alive at hj ⊢;rwa [nV (o':= .var t' (setAt cs off (bu x))) ho rfl,nU (o':= .var t' (setAt cs off (bu x))) ho rfl] at hj
end
end Go.aj
namespace Go.aj
open Go Go.RowKit
variable [bh]
section
variable {P:Program} {V:Env} {w0 w:World} {I0 I:aw} {m:Nat→Value} {l L:List AO}
theorem aF.Nz (h:aF w0 I0 w I m l) {id:Nat} {o o':AO} {J:aw} (ho:l[id]?=some o) (hv:o.isVar=o'.isVar) (hr:o.isRow=o'.isRow) (oG:o'.isRow=true)
  (lL:∀ e size els,(o' = .row e size els∨o' = .bx e size els)→∃ els',(o = .row e size els'∨o = .bx e size els'))
  (hle:I.le J) (hJ:∀ b,own (m id)≠some b→J.cell b=I.cell b∧J.mp b=I.mp b) (du:dH w J)
  (cr:jM w0.heap.size w J m (l.set id o') (m id) o'):aF w0 I0 w J m (l.set id o')∧Le I m l J m (l.set id o'):=by
 have jV:id < l.length:=(List.getElem?_eq_some_iff.1 ho).1
 have zO:Le I m l J m (l.set id o'):=by
  refine⟨hle,by simp,fun k _ hk=>⟨(nV ho hv k).trans hk,rfl⟩,fun k _ hk=>⟨(nU ho hr k).symm.trans hk,rfl⟩,fun k e size els hk hh=>?_⟩
  by_cases dD:k=id
  ·subst dD;rw[List.getElem?_set,if_pos rfl,if_pos jV] at hh
   have qX:o' = .row e size els∨o' = .bx e size els:=by rcases hh with hh | hh<;>(injection hh with hh;simp[hh])
   obtain⟨els',hc⟩:=lL e size els qX
   exact⟨els',by rcases hc with hc | hc<;>rw[ho,hc]<;>simp⟩
  rw[List.getElem?_set,if_neg (Ne.symm dD)] at hh;exact⟨els,hh⟩
 have zY:o ≠ .dead:=by rintro rfl;rw[←hr] at oG;simp[AO.isRow] at oG
 refine⟨⟨h.below,du,⟨fun _ _ _ x=>hle.cell _ _ _ (h.ext.lc _ _ _ x),fun _ _ x=>hle.mp _ _ (h.ext.lm _ _ x),fun b hb x=>hle.df b (h.ext.ld b hb x),fun b hb=>?_,fun b hb=>?_⟩,fun j o1 hj=>?_,fun i j b cm hi hj=>?_⟩,zO⟩
 ·by_cases bI:own (m id)=some b
  ·have:=((h.obj id o ho).lt zY bI).2;omega
  exact(hJ b bI).1.trans (h.ext.cell b hb)
 ·by_cases bI:own (m id)=some b
  ·have:=((h.obj id o ho).lt zY bI).2;omega
  exact(hJ b bI).2.trans (h.ext.mp b hb)
 ·by_cases eQ:j=id
  ·subst eQ;rw[List.getElem?_set,if_pos rfl,if_pos jV] at hj;injection hj with hj;subst hj;exact cr
  rw[List.getElem?_set,if_neg (Ne.symm eQ)] at hj
  by_cases hd:o1 = .dead
  ·subst hd;trivial
  exact(h.obj j o1 hj).iZ zO (fun _ _=>rfl) (fun b hb=>hJ b (fun he=>h.sep j id b eQ (bN.2 ⟨o1,hj,hd⟩) (bN.2 ⟨o,ho,zY⟩) hb he))
 refine h.sep i j b cm ?_ ?_
 ·unfold alive at hi ⊢;rwa [nV (o':=o') ho hv,nU (o':=o') ho hr] at hi
 unfold alive at hj ⊢;rwa [nV (o':=o') ho hv,nU (o':=o') ho hr] at hj
def aw.ez (I:aw) (b:Nat) (xs:List Value):aw:=⟨fun b' o=>if b'=b then(match xs[o]? with | some x=>some x | none=>I.cell b o) else I.cell b' o,I.mp,I.df⟩
def aw.wL (I:aw) (b:Nat) (es:ME):aw:=⟨I.cell,fun b'=>if b'=b then some es else I.mp b',I.df⟩
theorem yB {J:aw} {v:Value} {B:Nat} {e:TypeId} {size:Nat} {els:List D} {xs:List Value} (h1:w.ownsRow B e size v els.length xs) (h2:∀ d∈els,d.cells.length=size∧∀ x∈d.cells,x.one=true)
  (h3:∀ (j:Nat) x y,xs[j]?=some x→(flat els)[j]?=some y→Rd J x y) (hJ:∀ b,own v=some b→∀ (j:Nat) x,xs[j]?=some x→J.cell b j=some x):Rd J v (.slice size els):=by
 have j1:xs.length=els.length*size:=h1.1
 rcases h1.2 with ⟨rfl,hn⟩ | ⟨g,cap,cur,rfl,hb,hg,k1,k2,k3,k4⟩
 ·have:els=[]:=List.eq_nil_of_length_eq_zero hn
  subst this
  exact .lh _ _ _ (Nat.zero_le _)
 refine .slice g 0 els.length cap size els (fun j=>(xs[j]?).getD undef) rfl k1 k2 h2 (fun j hj=>?_) (fun j x hx=>?_)
 ·have dw:xs[j]?=some (xs[j]'(by omega)):=List.getElem?_eq_getElem (by omega)
  rw[Nat.zero_add,dw];exact hJ g rfl j _ dw
 have nN:j < els.length*size:=by rw[←jm els (fun d hd=>(h2 d hd).1)];exact(List.getElem?_eq_some_iff.1 hx).1
 have dw:xs[j]?=some (xs[j]'(by omega)):=List.getElem?_eq_getElem (by omega)
 rw[dw];exact h3 j _ x dw hx
theorem Xz (ah:aF w0 I0 w I m l) {v:Value} {t:T} {x:D} {l':List AO} (ht:aq I m l v t) (hd:dp l t=some (x,l')):∃ J,Le I m l J m l'∧aF w0 I0 w J m l'∧Rd J v x∧l'.length=l.length:=by
 cases ht with
 | d v y hy=>simp[dp] at hd;obtain⟨rfl,rfl⟩:=hd;exact⟨I,.refl ..,ah,hy,rfl⟩
 | bC s=>simp[dp] at hd;obtain⟨rfl,rfl⟩:=hd;exact⟨I,.refl ..,ah,.lh _ _ _ (Nat.zero_le _),rfl⟩
 | bD A n c id x h1 h2 h3=>simp[dp] at hd;obtain⟨rfl,rfl⟩:=hd;exact⟨I,.refl ..,ah,h3,rfl⟩
 | row A n c id h1 h2=>
  simp only[dp] at hd
  cases ho:l[id]? with
  | none=>simp[ho] at hd
  | some o=>
   cases o with
   | bx e s els=>
    simp only[ho,Option.some.injEq,Prod.mk.injEq] at hd
    obtain⟨rfl,rfl⟩:=hd
    have hm:=h2 (by simp[isRow,ho,AO.isRow])
    obtain⟨xs,k1,k2,k3,k4⟩:=ah.obj id _ ho
    rw[hm] at k1 k4
    exact⟨I,.refl ..,ah,yB k1 k2 k3 (fun b hb=>(k4 b hb).2.1),rfl⟩
   | row e s els=>
    simp only[ho,Option.some.injEq,Prod.mk.injEq] at hd
    obtain⟨rfl,rfl⟩:=hd
    have hm:=h2 (by simp[isRow,ho,AO.isRow])
    obtain⟨xs,k1,k2,k3,k4⟩:=ah.obj id _ ho
    rcases ae:own (m id) with _ | b
    ·
     have Kj:∀ b,own (m id)≠some b:=fun b h=>by rw[ae] at h;cases h
     obtain⟨r1,r2⟩:=ah.Nz (o':= .bx e s els) (J:=I) ho rfl rfl rfl (fun e' s' els' h=>by rcases h with h | h<;>cases h;exact⟨els,.inl rfl⟩) (.refl I) (fun _ _=>⟨rfl,rfl⟩) ah.sat ⟨xs,k1,k2,k3,fun b hb=>absurd hb (Kj b)⟩
     rw[hm] at k1 Kj
     exact⟨I,r2,r1,yB k1 k2 k3 (fun b hb=>absurd hb (Kj b)),by simp⟩
    obtain⟨n1,n2⟩:=k4 b ae
    let J:=I.ez b xs
    have RS:∀ (j:Nat) x,xs[j]?=some x→J.cell b j=some x:=fun j x hx=>by simp[J,aw.ez,hx]
    have hle:I.le J:=⟨fun b' o u hc=>by
     by_cases bI:b'=b
     ·subst bI;rw[n1 o] at hc;cases hc
     simp[J,aw.ez,bI,hc],fun _ _ h=>h,fun _ h=>h⟩
    have im:∀ b',some b≠some b'→J.cell b'=I.cell b'∧J.mp b'=I.mp b':=fun b' bI=>⟨by funext o;simp[J,aw.ez,show b'≠b from fun e=>bI (by rw[e])],rfl⟩
    have nI:∀ (j:Nat) x,xs[j]?=some x→w.cell? ⟨b,j,none⟩=some x:=by
     rw[hm] at k1 ae
     cases A with
     | none=>simp[own] at ae
     | some a=>
      obtain⟨q,_⟩:∃ cap,(Value.slice (some a) n c) = .slice (some ⟨b,0,none⟩) els.length cap∧True:=by
       rcases k1.2 with ⟨q,_⟩ | ⟨g,cap,cur,q,_⟩
       ·cases q
       rw[q] at ae;simp[own] at ae;subst ae;exact⟨cap,q,trivial⟩
      rename_i hq
      rw[hq.1] at k1
      exact G0 k1
    have du:dH w J:=⟨fun b' o u hc=>by
     by_cases bI:b'=b
     ·subst bI
      simp only[J,aw.ez,if_true] at hc
      cases hx:xs[o]? with
      | none=>simp only[hx] at hc;rw[n1 o] at hc;cases hc
      | some x=>simp only[hx] at hc;injection hc with hc;subst hc;exact nI o x hx
     simp only[J,aw.ez,if_neg bI] at hc;exact ah.sat.cell b' o u hc,ah.sat.mp,ah.sat.df,fun g d h=>(ah.sat.dA g d h).mono hle⟩
    obtain⟨r1,r2⟩:=ah.Nz (o':= .bx e s els) (J:=J) ho rfl rfl rfl (fun e' s' els' h=>by rcases h with h | h<;>cases h;exact⟨els,.inl rfl⟩) hle (fun b' bI=>im b' (fun e=>bI (ae.trans e))) du
     ⟨xs,k1,k2,fun j x y hx hy=>(k3 j x y hx hy).mono hle,fun b' bI=>by
      rw[ae] at bI;injection bI with bI;subst bI
      exact⟨n2,RS,fun j hj=>by simp only[J,aw.ez,if_true,List.getElem?_eq_none hj];exact n1 j⟩⟩
    rw[hm] at k1 ae
    exact⟨J,r2,r1,yB k1 k2 (fun j x y hx hy=>(k3 j x y hx hy).mono hle) (fun b' bI=>by rw[ae] at bI;injection bI with bI;subst bI;exact RS),by simp⟩
   | _=>simp[ho] at hd
 | map r id h1 h2=>
  simp only[dp] at hd
  cases ho:l[id]? with
  | none=>simp[ho] at hd
  | some o=>
   cases o with
   | eP ks vs=>
    simp only[ho,Option.some.injEq,Prod.mk.injEq] at hd
    obtain⟨rfl,rfl⟩:=hd
    have hm:=h2 (by simp[isRow,ho,AO.isRow])
    obtain⟨b,es,q1,q2,q3,q4,q5,q6,q7,q8,q9⟩:=ah.obj id _ ho
    rw[hm] at q1;injection q1 with q1;subst q1
    exact⟨I,.refl ..,ah,.map b es ks vs q9 q4 q5 q6 q7,rfl⟩
   | map ks vs=>
    simp only[ho,Option.some.injEq,Prod.mk.injEq] at hd
    obtain⟨rfl,rfl⟩:=hd
    have hm:=h2 (by simp[isRow,ho,AO.isRow])
    obtain⟨b,es,q1,q2,q3,q4,q5,q6,q7,q8⟩:=ah.obj id _ ho
    have ae:own (m id)=some b:=by rw[q1];rfl
    let J:=I.wL b es
    have hle:I.le J:=⟨fun _ _ _ h=>h,fun b' QX hc=>by
     by_cases bI:b'=b
     ·subst bI;rw[q8.2] at hc;cases hc
     simp[J,aw.wL,bI,hc],fun _ h=>h⟩
    have du:dH w J:=⟨ah.sat.cell,fun b' QX hc=>by
     by_cases bI:b'=b
     ·subst bI;simp only[J,aw.wL,if_true] at hc;injection hc with hc;subst hc;exact q3
     simp only[J,aw.wL,if_neg bI] at hc;exact ah.sat.mp b' QX hc,ah.sat.df,fun g d h=>(ah.sat.dA g d h).mono hle⟩
    obtain⟨r1,r2⟩:=ah.Nz (o':= .eP ks vs) (J:=J) ho rfl rfl rfl (fun e' s' els' h=>by rcases h with h | h<;>cases h) hle
     (fun b' bI=>⟨rfl,by simp[J,aw.wL,show b'≠b from fun e=>bI (by rw[ae,e])]⟩) du
     ⟨b,es,q1,q2,q3,q4,q5,fun i e d he hd=>(q6 i e d he hd).mono hle,fun i e d he hd=>(q7 i e d he hd).mono hle,q8.1,by simp[J,aw.wL]⟩
    rw[hm] at q1;injection q1 with q1;subst q1
    exact⟨J,r2,r1,.map b es ks vs (by simp[J,aw.wL]) q4 q5 (fun i e d he hd=>(q6 i e d he hd).mono hle) (fun i e d he hd=>(q7 i e d he hd).mono hle),by simp⟩
   | _=>simp[ho] at hd
 | _=>simp[dp] at hd
theorem Ol:∀ (ts:List T) (l:List AO) (I:aw) (vs:List Value) (ds:List D) (l':List AO),aF w0 I0 w I m l→vs.length=ts.length→(∀ (i:Nat) v t,vs[i]?=some v→ts[i]?=some t→aq I m l v t)→dW l ts=some (ds,l') →
  ∃ J,Le I m l J m l'∧aF w0 I0 w J m l'∧vs.length=ds.length∧(∀ (i:Nat) v d,vs[i]?=some v→ds[i]?=some d→Rd J v d)∧l'.length=l.length
 | [],l,I,vs,ds,l',ah,hl,hr,hd=>by
  simp[dW] at hd;obtain⟨rfl,rfl⟩:=hd
  have:vs=[]:=List.eq_nil_of_length_eq_zero (by simpa using hl)
  subst this
  exact⟨I,.refl ..,ah,rfl,by simp,rfl⟩
 | t::ts,l,I,vs,ds,l',ah,hl,hr,hd=>by
  match vs,hl with
  | v::vs,hl=>
   simp only[dW] at hd
   cases h1:dp l t with
   | none=>simp[h1] at hd
   | some p=>
    obtain⟨x,l1⟩:=p
    simp only[h1] at hd
    cases h2:dW l1 ts with
    | none=>simp[h2] at hd
    | some q=>
     obtain⟨xs,l2⟩:=q
     simp only[h2,Option.some.injEq,Prod.mk.injEq] at hd
     obtain⟨rfl,rfl⟩:=hd
     obtain⟨J1,gm,r1,x1,n1⟩:=Xz ah (hr 0 v t rfl rfl) h1
     obtain⟨J2,te,r2,q1,q2,n2⟩:=Ol ts l1 J1 vs xs l2 r1 (by simpa using hl) (fun i v t hv ht=>(hr (i+1) v t (by simpa using hv) (by simpa using ht)).mono gm) h2
     refine⟨J2,gm.trans te,r2,by simp[q1],fun i u d hu aS=>?_,by omega⟩
     rcases i with _ | i
     ·simp at hu aS;subst hu;subst aS;exact x1.mono te.eF
     simp at hu aS;exact q2 i u d hu aS
theorem Nx {l:List AO} {t:T} {x:D} {l':List AO} (hq:mv l t=true) (h:dp l t=some (x,l')):l'=l:=by
 cases t<;>simp[mv,dp] at hq h
 ·exact h.2.symm
 ·exact h.2.symm
 ·rename_i id
  cases ho:l[id]? with
  | none=>simp[ho] at hq
  | some o=>cases o<;>simp[ho] at hq h;exact h.2.symm
 ·rename_i id
  cases ho:l[id]? with
  | none=>simp[ho] at hq
  | some o=>cases o<;>simp[ho] at hq h;exact h.2.symm
 exact h.2.symm
theorem Om:∀ (ts:List T) {l:List AO} {ds:List D} {l':List AO},ts.all (mv l)=true→dW l ts=some (ds,l')→l'=l
 | [],l,ds,l',_,h=>by simp[dW] at h;exact h.2.symm
 | t::ts,l,ds,l',hq,h=>by
  simp only[List.all_cons,Bool.and_eq_true] at hq
  simp only[dW] at h
  cases h1:dp l t with
  | none=>simp[h1] at h
  | some p=>
   obtain⟨x,l1⟩:=p
   simp only[h1] at h
   have:=Nx hq.1 h1
   subst this
   cases h2:dW l1 ts with
   | none=>simp[h2] at h
   | some q=>
    obtain⟨xs,l2⟩:=q
    simp only[h2,Option.some.injEq,Prod.mk.injEq] at h
    rw[←h.2];exact Om ts hq.2 h2
theorem Xx {l L:List AO} (hc:fw l L) {t:T} {x:D} {l':List AO} (hq:mv l t=true) (h:dp l t=some (x,l')):dp L t=some (x,L)∧mv L t=true:=by
 cases t<;>simp[mv,dp] at hq h ⊢
 ·exact h.1
 ·exact h.1
 ·rename_i id
  cases ho:l[id]? with
  | none=>simp[ho] at hq
  | some o=>cases o<;>simp[ho] at hq h;simp[hc.get ho,h.1]
 ·rename_i id
  cases ho:l[id]? with
  | none=>simp[ho] at hq
  | some o=>cases o<;>simp[ho] at hq h;simp[hc.get ho,h.1]
 exact h.1
theorem Oi:∀ (ts:List T) {l L:List AO} {ds:List D} {l':List AO},fw l L→ts.all (mv l)=true→dW l ts=some (ds,l')→dW L ts=some (ds,L)
 | [],l,L,ds,l',_,_,h=>by simp[dW] at h ⊢;exact h.1
 | t::ts,l,L,ds,l',hc,hq,h=>by
  simp only[List.all_cons,Bool.and_eq_true] at hq
  simp only[dW] at h ⊢
  cases h1:dp l t with
  | none=>simp[h1] at h
  | some p=>
   obtain⟨x,l1⟩:=p
   simp only[h1] at h
   have:=Nx hq.1 h1
   subst this
   cases h2:dW l1 ts with
   | none=>simp[h2] at h
   | some q=>
    obtain⟨xs,l2⟩:=q
    simp only[h2,Option.some.injEq,Prod.mk.injEq] at h
    rw[(Xx hc hq.1 h1).1]
    simp only[Oi ts hc hq.2 h2,h.1]
theorem agK {l L:List AO} (hc:fw l L) {t:T} (hq:mv l t=true):mv L t=true:=by
 cases t<;>simp[mv] at hq ⊢
 ·rename_i id
  cases ho:l[id]? with
  | none=>simp[ho] at hq
  | some o=>cases o<;>simp[ho] at hq;simp[hc.get ho]
 rename_i id
 cases ho:l[id]? with
 | none=>simp[ho] at hq
 | some o=>cases o<;>simp[ho] at hq;simp[hc.get ho]
theorem Wi {v:Value} {ts:List T} (h:aq I m l v (.agg ts)):∃ vs:Array Value,v = .agg vs∧vs.size=ts.length∧(∀ (i:Nat) v,vs[i]?=some v→v.oneCell'=true)∧∀ (i:Nat) v t,vs[i]?=some v→ts[i]?=some t→aq I m l v t:=by
 cases h with
 | agg vs _ h1 h2 h3=>exact⟨vs,rfl,h1,h2,h3⟩
theorem Cm {l:List AO} {ts:List T} {x:D} {l':List AO} (h:ei l (.agg ts)=some (x,l')):∃ ds,x = .agg ds∧dW l ts=some (ds,l'):=by
 simp only[ei] at h
 cases h1:dW l ts with
 | none=>rw[h1] at h;cases h
 | some p=>
  obtain⟨ds,l1⟩:=p
  rw[h1] at h;simp at h
  exact⟨ds,h.1.symm,by rw[h.2]⟩
theorem Cn {l:List AO} {t:T} (h:∀ ts,t ≠ .agg ts):ei l t=dp l t:=by
 cases t<;>first | rfl | exact absurd rfl (h _)
theorem VU {l:List AO} {t:T} (h:∀ ts,t ≠ .agg ts):rW l t=mv l t:=by
 cases t<;>first | rfl | exact absurd rfl (h _)
theorem wF (ah:aF w0 I0 w I m l) {v:Value} {t:T} {x:D} {l':List AO} (ht:aq I m l v t) (hd:ei l t=some (x,l')):∃ J,Le I m l J m l'∧aF w0 I0 w J m l'∧Rd J v x∧l'.length=l.length:=by
 by_cases ha:∃ ts,t = .agg ts
 ·obtain⟨ts,rfl⟩:=ha
  obtain⟨ds,rfl,ff⟩:=Cm hd
  obtain⟨vs,rfl,h1,h2,h3⟩:=Wi ht
  obtain⟨J,le,r1,q1,q2,q3⟩:=Ol ts l I vs.toList ds l' ah (by simpa using h1) (fun i v t hv ht=>h3 i v t (by simpa using hv) ht) ff
  have q1':vs.size=ds.length:=by simpa using q1
  refine⟨J,le,r1,.agg vs ds q1' (fun d hd=>?_) (fun i v d hv hd=>q2 i v d (by simpa using hv) hd),q3⟩
  obtain⟨i,hi,rfl⟩:=List.mem_iff_getElem.1 hd
  have hv:vs[i]?=some (vs[i]'(by omega)):=Array.getElem?_eq_getElem (by omega)
  exact(q2 i _ _ (by simpa using hv) (List.getElem?_eq_getElem hi)).FC (h2 i _ hv)
 rw[Cn fun ts h=>ha ⟨ts,h⟩] at hd
 exact Xz ah ht hd
theorem qF:∀ (ts:List T) (l:List AO) (I:aw) (vs:List Value) (ds:List D) (l':List AO),aF w0 I0 w I m l→vs.length=ts.length→(∀ (i:Nat) v t,vs[i]?=some v→ts[i]?=some t→aq I m l v t)→gG l ts=some (ds,l') →
  ∃ J,Le I m l J m l'∧aF w0 I0 w J m l'∧vs.length=ds.length∧(∀ (i:Nat) v d,vs[i]?=some v→ds[i]?=some d→Rd J v d)∧l'.length=l.length
 | [],l,I,vs,ds,l',ah,hl,hr,hd=>by
  simp[gG] at hd;obtain⟨rfl,rfl⟩:=hd
  have:vs=[]:=List.eq_nil_of_length_eq_zero (by simpa using hl)
  subst this
  exact⟨I,.refl ..,ah,rfl,by simp,rfl⟩
 | t::ts,l,I,vs,ds,l',ah,hl,hr,hd=>by
  match vs,hl with
  | v::vs,hl=>
   simp only[gG] at hd
   cases h1:ei l t with
   | none=>simp[h1] at hd
   | some p=>
    obtain⟨x,l1⟩:=p
    simp only[h1] at hd
    cases h2:gG l1 ts with
    | none=>simp[h2] at hd
    | some q=>
     obtain⟨xs,l2⟩:=q
     simp only[h2,Option.some.injEq,Prod.mk.injEq] at hd
     obtain⟨rfl,rfl⟩:=hd
     obtain⟨J1,gm,r1,x1,n1⟩:=wF ah (hr 0 v t rfl rfl) h1
     obtain⟨J2,te,r2,q1,q2,n2⟩:=qF ts l1 J1 vs xs l2 r1 (by simpa using hl) (fun i v t hv ht=>(hr (i+1) v t (by simpa using hv) (by simpa using ht)).mono gm) h2
     refine⟨J2,gm.trans te,r2,by simp[q1],fun i u d hu aS=>?_,by omega⟩
     rcases i with _ | i
     ·simp at hu aS;subst hu;subst aS;exact x1.mono te.eF
     simp at hu aS;exact q2 i u d hu aS
theorem aiV {l:List AO} {t:T} {x:D} {l':List AO} (hq:rW l t=true) (h:ei l t=some (x,l')):l'=l:=by
 by_cases ha:∃ ts,t = .agg ts
 ·obtain⟨ts,rfl⟩:=ha
  obtain⟨ds,rfl,ff⟩:=Cm h
  exact Om ts hq ff
 rw[Cn fun ts h=>ha ⟨ts,h⟩] at h
 rw[VU fun ts h=>ha ⟨ts,h⟩] at hq
 exact Nx hq h
theorem aiT {l L:List AO} (hc:fw l L) {t:T} {x:D} {l':List AO} (hq:rW l t=true) (h:ei l t=some (x,l')):ei L t=some (x,L)∧rW L t=true:=by
 by_cases ha:∃ ts,t = .agg ts
 ·obtain⟨ts,rfl⟩:=ha
  obtain⟨ds,rfl,ff⟩:=Cm h
  refine⟨by simp only[ei,Oi ts hc hq ff],?_⟩
  simp only[rW,List.all_eq_true] at hq ⊢
  intro t ht
  exact agK hc (hq t ht)
 rw[Cn fun ts h=>ha ⟨ts,h⟩] at h ⊢
 rw[VU fun ts h=>ha ⟨ts,h⟩] at hq ⊢
 exact Xx hc hq h
theorem Oo:∀ (ts:List T) {l L:List AO} {ds:List D} {l':List AO},fw l L→ts.all (rW l)=true→gG l ts=some (ds,l')→gG L ts=some (ds,L)
 | [],l,L,ds,l',_,_,h=>by simp[gG] at h ⊢;exact h.1
 | t::ts,l,L,ds,l',hc,hq,h=>by
  simp only[List.all_cons,Bool.and_eq_true] at hq
  simp only[gG] at h ⊢
  cases h1:ei l t with
  | none=>simp[h1] at h
  | some p=>
   obtain⟨x,l1⟩:=p
   simp only[h1] at h
   have:=aiV hq.1 h1
   subst this
   cases h2:gG l1 ts with
   | none=>simp[h2] at h
   | some q=>
    obtain⟨xs,l2⟩:=q
    simp only[h2,Option.some.injEq,Prod.mk.injEq] at h
    rw[(aiT hc hq.1 h1).1]
    simp only[Oo ts hc hq.2 h2,h.1]
end
end Go.aj
namespace Go.aj
open Go Go.RowKit
variable [bh]
def bW (P:Program) (w0:World) (I0:aw) (o:Oper) (ρ:Operand→Value) (w:World) (I:aw) (m:Nat→Value) (l L:List AO) (nid:Nat) (r:R):Prop:=
 match r.bn with
 | .none=>cz P ((execOp ρ o).run P w) fun v w'=>∃ J,Le I m L J m L∧aF w0 I0 w' J m L∧aq J m L v r.t
 | .new a=>L[nid]?=some .dead→cz P ((execOp ρ o).run P w) fun v w'=>∃ m',Le I m L I m' (L.set nid a)∧aF w0 I0 w' I m' (L.set nid a)∧aq I m' (L.set nid a) v r.t
 | .aP l'=>L=l→nid=l.length→cz P ((execOp ρ o).run P w) fun v w'=>∃ J m',Le I m l J m' l'∧aF w0 I0 w' J m' l'∧aq J m' l' v r.t
section
variable {P:Program} {V:Env} {w0 w:World} {I0 I:aw} {m:Nat→Value} {l L:List AO} {nid:Nat} {o:Oper} {ρ:Operand→Value} {ρT:Operand→T}
theorem bW.val (ah:aF w0 I0 w I m L) {r:R} {u:Value} (he:r.bn = .none) (hx:(execOp ρ o).run P w = .ok (.value u) w) (hr:aq I m L u r.t):bW P w0 I0 o ρ w I m l L nid r:=by
 unfold bW
 rw[he]
 simp only[hx,cz]
 exact⟨I,.refl ..,ah,hr⟩
theorem cy {v:Value} {x:D} (h:aq I m L v (.d x)):Rd I v x:=by cases h;assumption
theorem B2 {v:Value} {pc:List (Nat×Bool×Bool)} {t:T} (h:aq I m L v (.cond pc t)) (hp:holds pc):aq I m L v t:=by cases h;rename_i _ hh;exact hh hp
theorem MR (ah:aF w0 I0 w I m L) {c a b:Operand} (ho:o.op = .pick c a b) (hr:∀ x∈o.op.operands,aq I m L (ρ x) (ρT x)) (ae:(rU (ρT c) (ρT a) (ρT b)).ob) :
  bW P w0 I0 o ρ w I m l L nid (rU (ρT c) (ρT a) (ρT b)):=by
 have hc:=hr c (by simp[ho,Op.operands])
 have ha:=hr a (by simp[ho,Op.operands])
 have hb:=hr b (by simp[ho,Op.operands])
 generalize ρT c=tc at *;generalize ρT a=ta at *;generalize ρT b=tb at *
 unfold rU at ae ⊢
 split at ae
 ·rename_i cc
  have:=cy hc
  generalize KS:ρ c=vc at *
  cases this
  simp only at ae ⊢
  split at ae
  ·rename_i x p y q hx hy
   have cK:cc=true→Rd I (ρ a) (.bool x):=by
    intro eU
    split at hx
    ·simp at hx;obtain⟨rfl,_⟩:=hx;exact cy ha
    ·rename_i pc x'
     simp only[Option.some.injEq,Prod.mk.injEq] at hx;obtain⟨rfl,rfl⟩:=hx
     exact cy (B2 ha (ae.1 eU))
    cases hx
   have vn:cc=false→Rd I (ρ b) (.bool y):=by
    intro eU
    split at hy
    ·simp at hy;obtain⟨rfl,_⟩:=hy;exact cy hb
    ·rename_i pc x'
     simp only[Option.some.injEq,Prod.mk.injEq] at hy;obtain⟨rfl,rfl⟩:=hy
     exact cy (B2 hb (ae.2 eU))
    cases hy
   refine bW.val ah rfl (u:=if cc=true then ρ a else ρ b) ?_ ?_
   ·unfold execOp;simp only[ho,KS,asBool,Sem.run_bind,Sem.run_pure,Result.andThen_ok]
   cases cc with
   | true=>simpa using aq.d _ _ (cK rfl)
   | false=>simpa using aq.d _ _ (vn rfl)
  ·rename_i x p hx hy
   obtain⟨eU,ae⟩:=ae
   subst eU
   have cK:Rd I (ρ a) (.bool x):=by
    split at hx
    ·simp at hx;obtain⟨rfl,_⟩:=hx;exact cy ha
    ·rename_i pc x'
     simp only[Option.some.injEq,Prod.mk.injEq] at hx;obtain⟨rfl,rfl⟩:=hx
     exact cy (B2 ha (ae trivial))
    cases hx
   refine bW.val ah rfl (u:=ρ a) ?_ (.d _ _ cK)
   unfold execOp;simp only[ho,KS,asBool,Sem.run_bind,Sem.run_pure,Result.andThen_ok,if_true]
  ·rename_i y q hx hy
   obtain⟨eU,ae⟩:=ae
   subst eU
   have vn:Rd I (ρ b) (.bool y):=by
    split at hy
    ·simp at hy;obtain⟨rfl,_⟩:=hy;exact cy hb
    ·rename_i pc x'
     simp only[Option.some.injEq,Prod.mk.injEq] at hy;obtain⟨rfl,rfl⟩:=hy
     exact cy (B2 hb (ae trivial))
    cases hy
   refine bW.val ah rfl (u:=ρ b) ?_ (.d _ _ vn)
   unfold execOp;simp only[ho,KS,asBool,Sem.run_bind,Sem.run_pure,Result.andThen_ok,Bool.false_eq_true,if_false]
  exact ae.elim
 exact ae.elim
theorem Iw {v:Value} {x:T} (hx:aq I m L v x) (h1:(bu x).all T.iM=true):v.cells.toList.length=(bu x).length∧(∀ u∈v.cells.toList,u.oneCell'=true)∧∀ (i:Nat) u t,v.cells.toList[i]?=some u→(bu x)[i]?=some t→aq I m L u t:=by
 have one:∀ (u:Value),u.oneCell'=true→u.cells.toList=[u]:=fun u hu=>by cases u<;>simp_all [Value.oneCell',Value.cells]
 have single:∀ (t:T),bu t=[t]→aq I m L v t→v.oneCell'=true→v.cells.toList.length=(bu t).length∧(∀ u∈v.cells.toList,u.oneCell'=true)∧∀ (i:Nat) u s,v.cells.toList[i]?=some u→(bu t)[i]?=some s→aq I m L u s:=by
  intro t ht hr hv
  rw[one v hv,ht]
  refine⟨rfl,by simpa using hv,fun i u s hu hs=>?_⟩
  rcases i with _ | i
  ·simp at hu hs;subst hu;subst hs;exact hr
  simp at hu
 cases hx with
 | undef=>simp[bu,T.iM] at h1
 | d _ d hd=>
  by_cases ht:∃ ds,d = .aI ds
  ·obtain⟨ds,rfl⟩:=ht;simp[bu,D.cells,T.iM,D.one] at h1
  obtain⟨q1,q2,q3⟩:=hd.cells (fun ds e=>ht ⟨ds,e⟩)
  refine⟨by simp[bu,q1],fun u hu=>?_,fun i u t hu oJ=>?_⟩
  ·obtain⟨i,hi,rfl⟩:=List.mem_iff_getElem.1 hu
   have dN:i < d.cells.length:=by simp at hi;omega
   exact(q3 i _ d.cells[i] (by rw[←Array.getElem?_toList];exact List.getElem?_eq_getElem hi) (List.getElem?_eq_getElem dN)).one (q2 _ (List.getElem_mem dN))
  simp only[bu,List.getElem?_map] at oJ
  cases aS:d.cells[i]? with
  | none=>simp[aS] at oJ
  | some y=>
   simp[aS] at oJ
   subst oJ
   exact .d _ _ (q3 i u y (by simpa using hu) aS)
 | bC s=>exact single _ rfl (.bC s) rfl
 | ptr id b off q1 q2=>exact single _ rfl (.ptr id b off q1 q2) rfl
 | bw b o size els k off val q1 q2 q3 q4=>exact single _ rfl (.bw b o size els k off val q1 q2 q3 q4) rfl
 | aI=>simp[bu,T.iM] at h1
 | cond=>simp[bu,T.iM] at h1
 | row A n c id q1 q2=>exact single _ rfl (.row A n c id q1 q2) rfl
 | bD A n c id x q1 q2 q3=>exact single _ rfl (.bD A n c id x q1 q2 q3) rfl
 | bf a id k off q1 q2=>exact single _ rfl (.bf a id k off q1 q2) rfl
 | map r id q1 q2=>exact single _ rfl (.map r id q1 q2) rfl
 | aL g vs ts q1 q2=>exact single _ rfl (.aL g vs ts q1 q2) rfl
 | bd id b q1 q2=>exact single _ rfl (.bd id b q1 q2) rfl
 | bL id b n c q1 q2 q3 q4=>exact single _ rfl (.bL id b n c q1 q2 q3 q4) rfl
 | sub A n c id lo hi q1 q2=>exact single _ rfl (.sub A n c id lo hi q1 q2) rfl
 | agg vs ts q1 q2 q3=>
  refine⟨by simp[bu,Value.cells,q1],fun u hu=>?_,fun i u t hu ht=>q3 i u t (by simpa [Value.cells] using hu) (by simpa [bu] using ht)⟩
  obtain⟨i,hi,rfl⟩:=List.mem_iff_getElem.1 hu
  simp only[Value.cells] at hi ⊢
  exact q2 i _ (by rw[←Array.getElem?_toList];exact List.getElem?_eq_getElem hi)
theorem L6 (ah:aF w0 I0 w I m L) (hn:L[nid]?=some .dead) {ty:TypeId} {vs:Array Value} {cs:List T} (hl:vs.toList.length=cs.length) (h1:∀ u∈vs.toList,u.oneCell'=true)
  (hr:∀ (i:Nat) u t,vs.toList[i]?=some u→cs[i]?=some t→aq I m L u t) :
  ∃ m',Le I m L I m' (L.set nid (.var ty cs))∧aF w0 I0 (w.alloc (.cells vs ty)) I m' (L.set nid (.var ty cs))∧aq I m' (L.set nid (.var ty cs)) (.pointer (some ⟨w.heap.size,0,none⟩)) (.ptr nid 0):=by
 have hle:Le I m L I (aP m nid (.pointer (some ⟨w.heap.size,0,none⟩))) (L.set nid (.var ty cs)):=Le.new hn rfl
 have aN:nid < L.length:=(List.getElem?_eq_some_iff.1 hn).1
 refine⟨_,hle,ah.alloc _ hn rfl rfl ⟨w.heap.size,vs,rfl,ah.below.size,heap_alloc_new w _,by simpa using hl,fun i x t hx ht=>?_,ah.sat.eZ (Nat.le_refl _)⟩,?_⟩
 ·exact⟨(hr i x t (by simpa using hx) ht).mono hle,h1 x (List.mem_of_getElem? (by simpa using hx:vs.toList[i]?=some x))⟩
 exact .ptr nid _ 0 (by unfold isVar;rw[List.getElem?_set,if_pos rfl,if_pos aN];rfl) (fH m nid _)
theorem YG (ah:aF w0 I0 w I m L) {e:TypeId} {x:Operand} (ho:o.op = .box e x) (hr:aq I m L (ρ x) (ρT x)) (h1:(bu (ρT x)).all T.iM=true) :
  bW P w0 I0 o ρ w I m l L nid ⟨.ptr nid 0,.new (.var e (bu (ρT x))),(bu (ρT x)).all T.iM=true⟩:=by
 intro hn
 obtain⟨c1,c2,c3⟩:=Iw hr h1
 have hx:(execOp ρ o).run P w = .ok (.value (.pointer (some ⟨w.heap.size,0,none⟩))) (w.alloc (.cells (ρ x).cells e)):=by
  unfold execOp;simp[ho,Instr.box,newVar,newRow]
 simp only[hx,cz]
 exact L6 ah hn c1 c2 c3
theorem Cy:∀ {vs:List Value} {ds:List D} {j:Nat} {v:Value} {d:D},km vs ds=true→vs[j]?=some v→ds[j]?=some d→wN v d=true
 | [],[],_,_,_,_,h,_=>by simp at h
 | v::vs,d::ds,j,u,e,h,hu,hd=>by
  simp only[km,Bool.and_eq_true] at h
  rcases j with _ | j
  ·simp at hu hd;subst hu;subst hd;exact h.1
  simp at hu hd;exact Cy h.2 hu hd
 | [],_::_,_,_,_,h,_,_=>by simp[km] at h
 | _::_,[],_,_,_,h,_,_=>by simp[km] at h
theorem NW {v:Value} {d:D} (h:wN v d=true):aq I m L v (lU d):=by
 unfold lU
 split
 ·have:v = .slice none 0 0:=by
   cases v<;>simp[wN] at h
   rename_i a n c
   cases a<;>cases n<;>cases c<;>simp_all [wN]
  subst this;exact .bC _
 exact .d _ _ (NV I h).1
theorem Ye (hE:cp P V.E) (ah:aF w0 I0 w I m L) {e:TypeId} {i:TI} (ho:o.op = .alloc e) (hi:V.E e=some i) :
  bW P w0 I0 o ρ w I m l L nid ⟨.ptr nid 0,.new (.var e (i.zero.map lU)),True⟩:=by
 intro hn
 obtain⟨z,h1,h2,h3,h4⟩:=G2 hE hi w
 obtain⟨q1,q2,q3⟩:=se I _ _ h2
 have hx:(execOp ρ o).run P w = .ok (.value (.pointer (some ⟨w.heap.size,0,none⟩))) (w.alloc (.cells z.cells e)):=by
  unfold execOp;simp[ho,Instr.alloc,h1,newVar,newRow]
 simp only[hx,cz]
 refine L6 ah hn (by simpa using q1) (fun u hu=>?_) (fun j u t hu ht=>?_)
 ·obtain⟨j,hj,rfl⟩:=List.mem_iff_getElem.1 hu
  have il:j < i.zero.length:=by omega
  exact(q3 j _ _ (List.getElem?_eq_getElem hj) (List.getElem?_eq_getElem il)).one (q2 _ (List.getElem_mem il))
 rw[List.getElem?_map] at ht
 cases hz:i.zero[j]? with
 | none=>simp[hz] at ht
 | some d=>simp[hz] at ht;subst ht;exact NW (Cy h2 hu hz)
theorem aaz (hE:cp P V.E) {s:TypeId} {f:Nat} {v:Value} {x:T} (hx:aq I m L v x) (ae:(nF V.E s f x).ob) :
  (nF V.E s f x).bn = .none∧∃ u,(Instr.fieldAt s v f).run P w = .ok u w∧aq I m L u (nF V.E s f x).t:=by
 have key:∀ {a:Addr} {sz bt:Nat} {z:List D} {fs:List (Nat×TypeId)} {p:Nat×TypeId},V.E s=some ⟨sz,bt,z,.struct fs⟩→fs[f]?=some p→0 < bq V.E p.2 →
   (Instr.fieldAt s (.pointer (some a)) f).run P w = .ok (.pointer (some (a.add p.1))) w:=by
  intro a sz bt z fs p hs hp bO
  obtain⟨gs,hu,rfl⟩:=NH hE hs
  rw[List.getElem?_map] at hp
  cases hg:gs.toList[f]? with
  | none=>simp[hg] at hp
  | some g=>
   simp[hg] at hp
   subst hp
   have nL:gs[f]?=some g:=by simpa using hg
   have aK:∃ n,(sizeOf g.type).run P w = .ok n w∧n≠0:=by
    cases hi:V.E g.type with
    | none=>simp[bq,hi] at bO
    | some i=>exact⟨i.size,mz hE hi w,by simp[bq,hi] at bO;omega⟩
   obtain⟨n,hn,bc⟩:=aK
   simp[Instr.fieldAt,run_underlying hu,nL,Instr.sureAddr,fieldPlace,hn,bc]
 cases hx with
 | ptr id b off q1 q2=>
  simp only[nF] at ae ⊢
  split at ae
  ·rename_i fs hs
   split at ae
   ·rename_i p hp
    split at ae
    ·rename_i bO
     simp only[if_pos bO]
     exact⟨rfl,_,key hs hp bO,by rw[Addr.add_mid];exact .ptr id b _ q1 q2⟩
    exact ae.elim
   exact ae.elim
  exact ae.elim
 | bw b o size els k off val q1 q2 q3 q4=>
  simp only[nF] at ae ⊢
  split at ae
  ·rename_i fs hs
   split at ae
   ·rename_i p hp
    split at ae
    ·rename_i bO
     simp only[if_pos bO]
     refine⟨rfl,_,key hs hp bO,?_⟩
     rw[Addr.add_mid,Nat.add_assoc]
     exact .bw b o size els k _ val q1 q2 q3 q4
    exact ae.elim
   exact ae.elim
  exact ae.elim
 | bf a id k off q1 q2=>
  simp only[nF] at ae ⊢
  split at ae
  ·rename_i fs hs
   split at ae
   ·rename_i p hp
    split at ae
    ·rename_i bO
     simp only[if_pos bO]
     refine⟨rfl,_,key hs hp bO,.bf _ id k _ q1 fun e size els hl=>?_⟩
     obtain⟨b,n,c,h1,rfl⟩:=q2 e size els hl
     exact⟨b,n,c,h1,by rw[Addr.add_mid,Nat.add_assoc]⟩
    exact ae.elim
   exact ae.elim
  exact ae.elim
 | _=>exact ae.elim
end
end Go.aj
namespace Go.aj
open Go Go.RowKit
variable [bh]
section
variable {P:Program} {V:Env} {w0 w:World} {I0 I:aw} {m:Nat→Value} {l L:List AO} {nid:Nat} {o:Oper} {ρ:Operand→Value} {ρT:Operand→T}
theorem aax (hE:cp P V.E) {s:TypeId} {f:Nat} {v:Value} {x:T} (hx:aq I m L v x) (ae:(pD V.E s f x).ob) :
  (pD V.E s f x).bn = .none∧∃ u,(Instr.field s v f).run P w = .ok u w∧aq I m L u (pD V.E s f x).t:=by
 unfold pD at ae ⊢
 split at ae
 ·rename_i cs
  split at ae
  ·rename_i fs hs
   split at ae
   ·rename_i p hp
    split at ae
    ·rename_i i hi
     split at ae
     ·rename_i hle
      simp only[if_pos hle]
      have:=cy hx
      generalize hD:D.agg cs=dd at this
      cases this<;>first | (cases hD;done) | skip
      rename_i vs ds q1 q2 q3
      injection hD with hD;subst hD
      obtain⟨gs,hu,rfl⟩:=NH hE hs
      rw[List.getElem?_map] at hp
      cases hg:gs.toList[f]? with
      | none=>simp[hg] at hp
      | some g=>
       simp[hg] at hp;subst hp
       have nL:gs[f]?=some g:=by simpa using hg
       simp only at hi hle ⊢
       have uP:=WK hE hi
       have aK:=mz hE hi
       cases ha:i.desc.agg with
       | true=>
        refine⟨rfl,.agg (vs.extract g.offset (g.offset+i.size)),?_,?_⟩
        ·simp only[Instr.field,Sem.run_bind,run_underlying hu,Result.andThen_ok,nL,asAgg,Sem.run_pure,part,uP,ha,if_true,aK]
        simp only[R.ok,fR,if_true]
        refine .d _ _ (.agg _ _ (by simp[q1];omega) (fun d hd=>q2 d (List.mem_of_mem_drop (List.mem_of_mem_take hd))) (fun j u d c8 aS=>?_))
        rw[List.getElem?_take] at aS
        split at aS
        ·rename_i hj
         rw[List.getElem?_drop] at aS
         rw[Array.getElem?_extract] at c8
         split at c8
         ·exact q3 _ u d c8 aS
         cases c8
        cases aS
       | false=>
        have h1:=He hE hi ha
        have aN:g.offset < vs.size:=by omega
        refine⟨rfl,vs[g.offset],?_,?_⟩
        ·simp only[Instr.field,Sem.run_bind,run_underlying hu,Result.andThen_ok,nL,asAgg,Sem.run_pure,part,uP,ha,Bool.false_eq_true,if_false,Array.getElem?_eq_getElem aN]
        have D6:g.offset < cs.length:=by omega
        have:((cs.drop g.offset).take i.size).headD .eY=cs[g.offset]:=by
         rw[h1,List.drop_eq_getElem_cons D6];rfl
        simp only[R.ok,fR,Bool.false_eq_true,if_false,this]
        exact .d _ _ (q3 g.offset _ _ (Array.getElem?_eq_getElem aN) (List.getElem?_eq_getElem D6))
     exact ae.elim
    exact ae.elim
   exact ae.elim
  exact ae.elim
 exact ae.elim
theorem XX {n:Int} (h : -9223372036854775808≤n∧n≤9223372036854775807):IntKind.i64.wrap n=n:=IntWalk.i64_in n (by omega)
theorem CM {k:IntKind} {n:Int} (h:(arith k n).2):(arith k n).1 = .int k (k.wrap n):=by
 cases k<;>simp only[arith] at h ⊢
 rw[XX h]
theorem YA (DP:ub P V.lO) {op:BinOp} {ty:TypeId} {x y:Operand} {u v:Value} {a b:D} (ha:Rd I u a) (hb:Rd I v b) {r:D} {ob:Prop} (h:gH V.lO op ty a b=some (r,ob)) (ae:ob) :
  ∃ z,((do eqGuard op ty x y u v;binOp op ty u v:Sem Value)).run P w = .ok z w∧Rd I z r:=by
 unfold gH at h
 split at h
 ·
  rename_i k p k' q
  cases ha;cases hb
  split at h
  ·cases h
  rename_i hk
  have hk:k=k':=Decidable.not_not.1 hk
  subst hk
  have hg:∀ w,(eqGuard op ty x y (.int k p) (.int k q)).run P w = .ok () w:=fun w=>by rw[eqGuard_at_int];rfl
  simp only[Sem.run_bind,hg,Result.andThen_ok]
  split at h<;>first | (cases h;done) | skip
  all_goals try simp only[Option.some.injEq,Prod.mk.injEq] at h
  ·obtain⟨rfl,rfl⟩:=h;exact⟨_,by rw[binOp_add];rfl,by rw[CM ae];exact .int _ _⟩
  ·obtain⟨rfl,rfl⟩:=h;exact⟨_,by rw[binOp_sub];rfl,by rw[CM ae];exact .int _ _⟩
  ·obtain⟨rfl,rfl⟩:=h;exact⟨_,by rw[binOp_mul];rfl,by rw[CM ae];exact .int _ _⟩
  ·split at h
   ·simp only[Option.some.injEq,Prod.mk.injEq] at h
    obtain⟨rfl,rfl⟩:=h
    refine⟨.int .i64 (IntKind.i64.wrap (p.tdiv q)),by rw[binOp_quo];simp[Op.intDiv,ae.1],?_⟩
    rw[XX (by have:=ae.2;omega)];exact .int _ _
   cases h
  ·obtain⟨rfl,rfl⟩:=h
   refine⟨.int k (p.tmod q),by rw[binOp_rem];simp[Op.intDiv,show q≠0 from ae],?_⟩
   exact .int _ _
  ·obtain⟨rfl,rfl⟩:=h;exact⟨_,by rw[binOp_eql];rfl,by rw[show(p == q)=decide (p=q) by rw[Bool.eq_iff_iff];simp];exact .bool _⟩
  ·obtain⟨rfl,rfl⟩:=h;exact⟨_,by rw[binOp_neq];rfl,by rw[show(p != q) = !decide (p=q) by rw[Bool.eq_iff_iff];simp[bne]];exact .bool _⟩
  ·obtain⟨rfl,rfl⟩:=h;exact⟨_,by rw[binOp_lss];rfl,.bool _⟩
  ·obtain⟨rfl,rfl⟩:=h;exact⟨_,by rw[binOp_leq];rfl,.bool _⟩
  ·obtain⟨rfl,rfl⟩:=h;exact⟨_,by rw[binOp_gtr];rfl,.bool _⟩
  obtain⟨rfl,rfl⟩:=h;exact⟨_,by rw[binOp_geq];rfl,.bool _⟩
 ·
  rename_i p q
  split at h
  ·split at h
   ·rename_i hk
    simp only[Option.some.injEq,Prod.mk.injEq] at h;obtain⟨rfl,rfl⟩:=h
    exact⟨_,DP ty _ hk .eql x y I u v _ _ w ha hb (.inl ⟨_,_,rfl,rfl,rfl⟩) (.inl rfl),by simp[jN];exact .bool _⟩
   cases h
  ·split at h
   ·rename_i hk
    simp only[Option.some.injEq,Prod.mk.injEq] at h;obtain⟨rfl,rfl⟩:=h
    exact⟨_,DP ty _ hk .neq x y I u v _ _ w ha hb (.inl ⟨_,_,rfl,rfl,rfl⟩) (.inr rfl),by simp[jN];exact .bool _⟩
   cases h
  cases h
 ·
  rename_i p q
  cases ha;cases hb
  have hg:∀ w,(eqGuard op ty x y (.string p) (.string q)).run P w = .ok () w:=fun w=>by rw[eqGuard_at_string];rfl
  simp only[Sem.run_bind,hg,Result.andThen_ok]
  split at h<;>first | (cases h;done) | skip
  all_goals simp only[Option.some.injEq,Prod.mk.injEq] at h;obtain⟨rfl,rfl⟩:=h
  ·exact⟨.bool (p == q),by rw[beq_toListBytes];simp[binOp,Op.stringOp],.bool _⟩
  ·exact⟨.bool (!(p == q)),by rw[beq_toListBytes];simp[binOp,Op.stringOp],.bool _⟩
  exact⟨.string (p++q),by simp[binOp,Op.stringOp,ae],.str _⟩
 ·
  rename_i xs ys
  split at h
  ·split at h
   ·rename_i ls hk
    split at h
    ·cases h
    rename_i bc
    simp only[Option.some.injEq,Prod.mk.injEq] at h;obtain⟨rfl,rfl⟩:=h
    exact⟨_,DP ty _ hk .eql x y I u v _ _ w ha hb (.inr ⟨_,_,rfl,rfl,bc,ae.1,ae.2⟩) (.inl rfl),by simp[jN];exact .bool _⟩
   cases h
  ·split at h
   ·rename_i ls hk
    split at h
    ·cases h
    rename_i bc
    simp only[Option.some.injEq,Prod.mk.injEq] at h;obtain⟨rfl,rfl⟩:=h
    exact⟨_,DP ty _ hk .neq x y I u v _ _ w ha hb (.inr ⟨_,_,rfl,rfl,bc,ae.1,ae.2⟩) (.inr rfl),by simp[jN];exact .bool _⟩
   cases h
  cases h
 cases h
theorem ai3 {op:UnOp} {u:Value} {a:D} (ha:Rd I u a) {r:D} {ob:Prop} (h:Cr op a=some (r,ob)) (ae:ob):∃ z,(Op.unary op u).run P w = .ok z w∧Rd I z r:=by
 unfold Cr at h
 split at h
 ·cases ha
  split at h
  ·simp only[Option.some.injEq,Prod.mk.injEq] at h;obtain⟨rfl,rfl⟩:=h
   exact⟨_,by simp only[Op.unary,Sem.run_pure],.bool _⟩
  cases h
 ·cases ha
  split at h
  ·simp only[Option.some.injEq,Prod.mk.injEq] at h;obtain⟨rfl,rfl⟩:=h
   exact⟨_,by simp[Op.unary,Op.intArith];rfl,by rw[CM ae];simp;exact .int _ _⟩
  cases h
 cases h
theorem acu (hE:cp P V.E) (ah:aF w0 I0 w I m L) (hc:fw l L) {t:TypeId} {v vi:Value} {x i:T} (hx:aq I m L v x) (hi:aq I m L vi i) (ae:(mW V.E t l x i).ob) :
  (mW V.E t l x i).bn = .none∧∃ u,(Instr.indexAt t v vi).run P w = .ok u w∧aq I m L u (mW V.E t l x i).t:=by
 unfold mW at ae ⊢
 split at ae
 ·rename_i e k n hs hn
  have Ax:vi = .int k n:=by
   unfold eg at hn
   split at hn
   ·simp at hn;obtain⟨rfl,rfl⟩:=hn;have:=cy hi;cases this;rfl
   cases hn
  subst Ax
  have hu:=mG hE hs
  have key:∀ (a:Addr) (len cap:Nat),0≤n→n < len→∀ z,(V.E e).map TI.size=some z→(Instr.indexAt t (.slice (some a) len cap) (.int k n)).run P w = .ok (.pointer (some (a.add (n.toNat*z)))) w:=by
   intro a len cap h0 h1 z hz
   cases fV:V.E e with
   | none=>simp[fV] at hz
   | some ie=>
    simp[fV] at hz
    simp[Instr.indexAt,run_underlying hu,asIntOf,h0,h1,mz hE fV,hz]
  have bO:∀ {size:Nat},size=bq V.E e∧0 < size→(V.E e).map TI.size=some size:=by
   intro size aK
   unfold bq at aK
   cases fV:V.E e with
   | none=>simp[fV] at aK;omega
   | some ie=>simp[fV] at aK;simp[aK.1]
  split at ae
  ·rename_i size els
   split at ae
   ·rename_i aK
    simp only[if_pos aK]
    obtain⟨h0,h1⟩:=ae
    have:=cy hx
    generalize hD:D.slice size els=dd at this
    cases this<;>first | (cases hD;done) | skip
    ·injection hD with xr Jy;subst Jy;simp at h1;omega
    rename_i b off len c wx els' val q1 q2 q3 q4 q5 q6
    injection hD with xr Jy;subst xr;subst Jy
    refine⟨trivial,_,key _ len c h0 (by omega) size (bO aK),?_⟩
    rw[Addr.add_mid]
    have:=aq.bw (I:=I) (m:=m) (l:=L) b off size els n.toNat 0 val (by omega) q4 (fun j hj=>q5 j (by rw[←q1];exact hj)) q6
    simpa using this
   exact ae.elim
  ·rename_i id
   have go:∀ e' size els,l[id]?=some (.row e' size els)∨l[id]?=some (.bx e' size els)→size=bq V.E e∧0 < size→0≤n∧n < els.length →
     ∃ u,(Instr.indexAt t v (.int k n)).run P w = .ok u w∧aq I m L u (.bf id n.toNat 0):=by
    intro e' size els ho aK ⟨h0,h1⟩
    have bK:L[id]?=some (.row e' size els)∨L[id]?=some (.bx e' size els):=by rcases ho with ho | ho;exact .inl (hc.get ho);exact .inr (hc.get ho)
    have cK:∃ A n' c,v = .slice A n' c∧m id=v:=by
     cases hx with
     | row A n' c _ q1 q2=>exact⟨A,n',c,rfl,q2 (by unfold isRow;rcases bK with h | h<;>simp[h,AO.isRow])⟩
    obtain⟨A,n',c,rfl,hm⟩:=cK
    have dt:∃ xs,w.ownsRow w0.heap.size e' size (m id) els.length xs:=by
     rcases bK with h | h
     ·obtain⟨xs,k1,_⟩:=ah.obj id _ h;exact⟨xs,k1⟩
     obtain⟨xs,k1,_⟩:=ah.obj id _ h;exact⟨xs,k1⟩
    obtain⟨xs,k1⟩:=dt
    rcases k1.2 with ⟨_,q⟩ | ⟨g,cap,cur,q,_⟩
    ·simp[q] at h1;omega
    have q':=hm.symm.trans q
    injection q' with q1 q2 q3
    subst q1;subst q2;subst q3
    refine⟨_,key _ _ _ h0 h1 size (bO aK),.bf _ id _ 0 ?_ fun e1 s1 ajz hl=>⟨g,els.length,_,q,?_⟩⟩
    ·rcases bK with h | h<;>exact(List.getElem?_eq_some_iff.1 h).1
    have:s1=size:=by rcases bK with h | h<;>rcases hl with hl | hl<;>rw[h] at hl<;>cases hl<;>rfl
    subst this
    rw[Addr.add_mid];simp
   split at ae
   ·rename_i e' size els ho
    split at ae
    ·rename_i aK
     simp only[if_pos aK]
     exact⟨trivial,go e' size els (.inl ho) aK ae⟩
    exact ae.elim
   ·rename_i e' size els ho
    split at ae
    ·rename_i aK
     simp only[if_pos aK]
     exact⟨trivial,go e' size els (.inr ho) aK ae⟩
    exact ae.elim
   exact ae.elim
  exact ae.elim
 ·rename_i len e k n hs hn
  have Ax:vi = .int k n:=by
   unfold eg at hn
   split at hn
   ·simp at hn;obtain⟨rfl,rfl⟩:=hn;have:=cy hi;cases this;rfl
   cases hn
  subst Ax
  have hu:=Hq hE hs
  split at ae
  ·rename_i size els q off
   split at ae
   ·rename_i he
    simp only[if_pos he]
    obtain⟨h0,h1⟩:=ae
    obtain⟨ie,fV⟩:=Option.isSome_iff_exists.1 he
    cases hx with
    | bw b o _ _ _ _ val q1 q2 q3 q4=>
     refine⟨trivial,.pointer (some ⟨b,o+q*size+(off+n.toNat*bq V.E e),none⟩),?_,.bw b o size els q _ val q1 q2 q3 q4⟩
     have hz:bq V.E e=ie.size:=by simp[bq,fV]
     simp[Instr.indexAt,Instr.sureAddr,run_underlying hu,asIntOf,h0,h1,mz hE fV,hz,Addr.add_mid,Nat.add_assoc]
   exact ae.elim
  exact ae.elim
 exact ae.elim
end
end Go.aj
namespace Go.aj
open Go Go.RowKit
variable [bh]
theorem aaH {size:Nat} (els:List D) (hs:∀ d∈els,d.cells.length=size) (k:Nat):flat (els.drop k)=(flat els).drop (k*size):=by
 induction els generalizing k with
 | nil=>simp[flat]
 | cons e els ih=>
  have he:=hs e (by simp)
  rcases k with _ | k
  ·simp
  simp only[List.drop_succ_cons]
  rw[ih (fun d hd=>hs d (by simp[hd])) k]
  simp only[flat,List.flatMap_cons]
  rw[show(k+1)*size=e.cells.length+k*size by rw[he,Nat.add_mul];omega,←List.drop_drop,List.drop_left]
theorem Rk {size:Nat} (els:List D) (hs:∀ d∈els,d.cells.length=size) (k:Nat):flat (els.take k)=(flat els).take (k*size):=by
 induction els generalizing k with
 | nil=>simp[flat]
 | cons e els ih=>
  have he:=hs e (by simp)
  rcases k with _ | k
  ·simp[flat]
  simp only[List.take_succ_cons]
  have:=ih (fun d hd=>hs d (by simp[hd])) k
  simp only[flat,List.flatMap_cons] at this ⊢
  rw[show(k+1)*size=e.cells.length+k*size by rw[he,Nat.add_mul];omega,List.take_length_add_append,this]
theorem Jb (a b:List D):flat (a++b)=flat a++flat b:=by simp[flat]
section
variable {P:Program} {V:Env} {w0 w:World} {I0 I:aw} {m:Nat→Value} {l L:List AO} {nid:Nat} {o:Oper} {ρ:Operand→Value} {ρT:Operand→T}
theorem Wk {A:Option Addr} {n c lo hi size:Nat} {els:List D} (h:Rd I (.slice A n c) (.slice size els)) (h1:lo≤hi) (h2:hi≤els.length) :
  n=els.length∧n≤c∧Rd I (.slice (if c=lo then A else A.map (·.add (lo*size))) (hi - lo) (c - lo)) (.slice size ((els.take hi).drop lo)):=by
 cases h with
 | lh A c size hc=>
  have:hi=0:=by simpa using h2
  subst this
  have:lo=0:=by omega
  subst this
  refine⟨rfl,Nat.zero_le _,?_⟩
  simpa using Rd.lh (I:=I) _ c size hc
 | slice b off n c size els val q1 q2 q3 q4 q5 q6=>
  refine⟨q1.symm,q2,?_⟩
  by_cases he:lo=hi
  ·subst he
   have:(els.take lo).drop lo=[]:=by simp
   rw[this,Nat.sub_self]
   exact .lh _ _ _ (by omega)
  have bc:c≠lo:=by omega
  rw[if_neg bc]
  simp only[Option.map_some,Addr.add_mid]
  have hs:∀ d∈els,d.cells.length=size:=fun d hd=>(q4 d hd).1
  refine .slice b (off+lo*size) (hi - lo) (c - lo) size _ (fun k=>val (lo*size+k)) (by simp;omega) (by omega) (by omega) (fun d hd=>q4 d (List.mem_of_mem_take (List.mem_of_mem_drop hd))) (fun k hk=>?_) (fun k x hx=>?_)
  ·rw[Nat.add_assoc]
   apply q5
   have:lo*size+(hi - lo)*size=hi*size:=by rw[←Nat.add_mul];congr 1;omega
   have:hi*size≤n*size:=Nat.mul_le_mul_right _ (by omega)
   omega
  rw[aaH _ (fun d hd=>hs d (List.mem_of_mem_take hd)),Rk _ hs,List.getElem?_drop,List.getElem?_take] at hx
  split at hx
  ·exact q6 _ x hx
  cases hx
theorem W5 (hE:cp P V.E) {t e:TypeId} {sz bt:Nat} {z:List D} (hs:V.E t=some ⟨sz,bt,z,.slice e⟩) {v:Value} {x:T} {lo hi:Option Operand} (hx:aq I m L v x)
  (fm:∀ a,lo=some a→aq I m L (ρ a) (ρT a)) (lH:∀ a,hi=some a→aq I m L (ρ a) (ρT a)) (aK:∀ size els,x = .d (.slice size els)→size=bq V.E e∧(V.E e).isSome=true) (ae:(mB x (lo.map ρT) (hi.map ρT)).ob) :
  (mB x (lo.map ρT) (hi.map ρT)).bn = .none∧∃ u,(Instr.sliceAt t v (lo.map ρ) (hi.map ρ) none).run P w = .ok u w∧aq I m L u (mB x (lo.map ρT) (hi.map ρT)).t:=by
 have hu:=mG hE hs
 have c8:P.underlying t=some (.slice (P.elem t)):=by simp[Program.elem,hu]
 have he:P.elem t=e:=by simp[Program.elem,hu]
 have hint:∀ {a:T} {k:IntKind} {n:Int} {v:Value},eg a=some (k,n)→aq I m L v a→v = .int k n:=by
  intro a k n v hn hr
  unfold eg at hn
  split at hn
  ·simp at hn;obtain⟨rfl,rfl⟩:=hn;have:=cy hr;cases this;rfl
  cases hn
 unfold mB at ae ⊢
 split at ae
 ·rename_i size els
  obtain⟨jv,ve⟩:=aK size els rfl
  have hd:=cy hx
  obtain⟨A,n,c,rfl⟩:∃ A n c,v = .slice A n c:=by cases hd<;>exact⟨_,_,_,rfl⟩
  obtain⟨ie,fV⟩:=Option.isSome_iff_exists.1 ve
  have KR:ie.size=size:=by rw[jv];simp[bq,fV]
  have rh:(sizeOf (P.elem t)).run P w = .ok size w:=by rw[he,mz hE fV,KR]
  have ep:∀ a b,(Instr.sliceAt t (.slice A n c) a b none).run P w=(Instr.slice t (.slice A n c) a b none).run P w:=fun a b=>run_sliceAt_slice w t _ a b none c8
  have fin:∀ lo hi:Nat,lo≤hi→hi≤els.length→aq I m L (sliced A lo hi c size) (.d (.slice size ((els.take hi).drop lo))):=by
   intro lo hi h1 h2
   obtain⟨_,_,h3⟩:=Wk hd h1 h2
   refine .d _ _ ?_
   simpa [sliced] using h3
  obtain⟨iY,fC,_⟩:=Wk hd (Nat.zero_le els.length) (Nat.le_refl _)
  cases lo with
  | none=>
   cases hi with
   | none=>
    simp only[Option.map_none] at ae ⊢
    refine⟨rfl,_,by rw[ep,run_slice_all w t A n c c8,rh];rfl,?_⟩
    have:=fin 0 els.length (Nat.zero_le _) (Nat.le_refl _)
    rw[iY]
    simpa [R.ok] using this
   | some b=>
    simp only[Option.map_none,Option.map_some] at ae ⊢
    split at ae
    ·rename_i k h hb
     have hv:=hint hb (lH b rfl)
     simp only
     refine⟨trivial,_,by rw[ep,hv,run_slice_h w t A n c c8 _ _ ae.1 (by omega),rh];rfl,?_⟩
     have:=fin 0 h.toNat (Nat.zero_le _) (by omega)
     simpa using this
    exact ae.elim
  | some a=>
   cases hi with
   | none=>
    simp only[Option.map_none,Option.map_some] at ae ⊢
    split at ae
    ·rename_i k h ha
     have hv:=hint ha (fm a rfl)
     simp only
     refine⟨trivial,_,by rw[ep,hv,run_slice_l w t A n c c8 _ _ ae.1 (by omega),rh];rfl,?_⟩
     have:=fin h.toNat els.length (by omega) (Nat.le_refl _)
     rw[iY]
     simpa using this
    exact ae.elim
   | some b=>
    simp only[Option.map_some] at ae ⊢
    split at ae
    ·rename_i k g k' h ha hb
     have hv:=hint ha (fm a rfl)
     have bQ:=hint hb (lH b rfl)
     simp only
     refine⟨trivial,_,by rw[ep,hv,bQ,run_slice_lh w t A n c c8 _ _ _ _ ae.1 ae.2.1 (by omega),rh];rfl,?_⟩
     exact fin g.toNat h.toNat (by omega) (by omega)
    exact ae.elim
 exact ae.elim
end
end Go.aj
namespace Go.aj
open Go Go.RowKit
variable [bh]
section
variable {P:Program} {V:Env} {w0 w:World} {I0 I:aw} {m:Nat→Value} {l L:List AO}
theorem Jd {size:Nat}:∀ (els:List D) (k:Nat) (x:D),(∀ d∈els,d.cells.length=size)→k < els.length→flat (els.set k x)=(flat els).take (k*size)++x.cells++(flat els).drop (k*size+size)
 | [],k,x,_,hk=>by simp at hk
 | d::els,0,x,hs,_=>by
  have hd:=hs d (by simp)
  simp[flat,←hd,List.drop_append]
 | d::els,k+1,x,hs,hk=>by
  have hd:=hs d (by simp)
  have ih:=Jd els k x (fun y hy=>hs y (by simp[hy])) (by simpa using hk)
  have e1:(k+1)*size=d.cells.length+k*size:=by rw[hd,Nat.succ_mul,Nat.add_comm]
  have e2:flat (d::els)=d.cells++flat els:=by simp[flat]
  have e3:flat (d::els.set k x)=d.cells++flat (els.set k x):=by simp[flat]
  rw[List.set_cons_succ,e3,ih,e2,e1,List.take_append,List.drop_append]
  simp[List.take_of_length_le,Nat.add_sub_cancel_left,List.append_assoc,show d.cells.length+k*size+size - d.cells.length=k*size+size by omega,List.drop_of_length_le (show d.cells.length≤d.cells.length+k*size+size by omega)]
theorem Nu {α:Type} (A V:List α) (p s N:Nat) (h1:p+s≤N) (h2:N≤A.length) (hv:V.length=s):(A.take p++V++A.drop (p+s)).take N=(A.take N).take p++V++(A.take N).drop (p+s):=by
 apply List.ext_getElem?
 intro i
 simp only[List.getElem?_take,List.getElem?_append,List.length_append,List.length_take,List.getElem?_drop,hv,Nat.min_eq_left (show p≤A.length by omega),Nat.min_eq_left h2,Nat.min_eq_left (show p≤N by omega)]
 by_cases a:i < N
 ·by_cases b:i < p
  ·simp[a,b,show i < p+s by omega]
  by_cases c:i < p+s
  ·simp[a,b,c]
  simp[a,b,c,show p+s+(i - (p+s)) < N by omega]
 simp[a,show ¬ i < p by omega,show ¬ i < p+s by omega,show ¬ p+s+(i - (p+s)) < N by omega]
theorem aF.Hl (ah:aF w0 I0 w I m l) {id b e size n c:Nat} {els els':List D} {cur new:Array Value} {xs:List Value} (ho:l[id]?=some (.row e size els)) (hm:m id = .slice (some ⟨b,0,none⟩) n c)
  (hw:w.heap[b]?=some (.cells cur e (0,0))) (lL:(w.setRow b new).ownsRow w0.heap.size e size (.slice (some ⟨b,0,none⟩) n c) els'.length xs)
  (hs:∀ d∈els',d.cells.length=size∧∀ x∈d.cells,x.one=true) (ch:∀ (j:Nat) x y,xs[j]?=some x→(flat els')[j]?=some y→Rd I x y) :
  Le I m l I m (l.set id (.row e size els'))∧aF w0 I0 (w.setRow b new) I m (l.set id (.row e size els')):=by
 obtain⟨xs0,k1,k2,k3,k4⟩:=ah.obj id _ ho
 have jV:id < l.length:=(List.getElem?_eq_some_iff.1 ho).1
 have bS:I.eZ b:=k4 b (by rw[hm];rfl)
 have sK:w0.heap.size≤b:=((ah.obj id _ ho).lt (by simp) (by rw[hm];rfl)).2
 have hle:Le I m l I m (l.set id (.row e size els')):=by
  refine⟨.refl I,by simp,fun k _ hk=>⟨(nV (o':= .row e size els') ho rfl k).trans hk,rfl⟩,fun k _ hk=>⟨(nU (o':= .row e size els') ho rfl k).symm.trans hk,rfl⟩,fun k e' wx Z4 hk hh=>?_⟩
  by_cases dD:k=id
  ·subst dD;rw[List.getElem?_set,if_pos rfl,if_pos jV] at hh
   rcases hh with hh | hh
   ·injection hh with hh;injection hh with h1 h2 h3;subst h1;subst h2;exact⟨els,.inl ho⟩
   cases hh
  rw[List.getElem?_set,if_neg (Ne.symm dD)] at hh;exact⟨Z4,hh⟩
 refine⟨hle,⟨ah.below.trans ⟨rfl,rfl,rfl,by simp[World.setRow],fun k hk=>setRow_other w b _ new (by omega),fun _=>Nat.le_refl _⟩,⟨fun b' o u hc=>?_,fun b' es hc=>?_,fun b' hd=>(setRow_other w b _ new (fun e=>by subst e;exact ah.sat.oS hw (by simp) hd)).trans (ah.sat.df b' hd),ah.sat.dA⟩,ah.ext,fun j o hj=>?_,fun i j b' cm hi hj cI cJ=>?_⟩⟩
 ·have bc:b'≠b:=by rintro rfl;rw[bS.1] at hc;cases hc
  exact(World.cell?_of_block (w:=w) (a:=⟨b',o,none⟩) (setRow_other w b _ new bc)).trans (ah.sat.cell b' o u hc)
 ·have bc:b'≠b:=by rintro rfl;rw[bS.2] at hc;cases hc
  have hh:=ah.sat.mp b' es hc
  exact gd.to (setRow_other w b _ new bc) hh
 ·by_cases eQ:j=id
  ·subst eQ
   rw[List.getElem?_set,if_pos rfl,if_pos jV] at hj
   injection hj with hj;subst hj
   rw[hm]
   exact⟨xs,lL,hs,ch,fun b' bI=>by injection bI with bI;subst bI;exact bS⟩
  rw[List.getElem?_set,if_neg (Ne.symm eQ)] at hj
  by_cases hd:o = .dead
  ·subst hd;trivial
  refine(ah.obj j o hj).iZ hle (fun b' bI=>setRow_other w b _ new ?_) (fun _ _=>⟨rfl,rfl⟩)
  rintro rfl
  exact ah.sep j id b' eQ (bN.2 ⟨o,hj,hd⟩) (bN.2 ⟨_,ho,by simp⟩) bI (by rw[hm];rfl)
 refine ah.sep i j b' cm ?_ ?_ cI cJ
 ·unfold alive at hi ⊢;rwa [nV (o':= .row e size els') ho rfl,nU (o':= .row e size els') ho rfl] at hi
 unfold alive at hj ⊢;rwa [nV (o':= .row e size els') ho rfl,nU (o':= .row e size els') ho rfl] at hj
theorem ahC (hE:cp P V.E) (ah:aF w0 I0 w I m l) {id k:Nat} {ty e size:Nat} {els:List D} {x:D} {v:Value} {a:Addr} (ho:l[id]?=some (.row e size els)) (ha:aq I m l (.pointer (some a)) (.bf id k 0))
  (hx:Rd I v x) (hc:x.cells.length=size) (h1:x.cells.all D.one=true) (hk:k < els.length) (hn:x.cells.length=bq V.E ty) (bO:0 < x.cells.length) :
  ∃ w',(Instr.storeAt ty (.pointer (some a)) v).run P w = .ok () w'∧Le I m l I m (l.set id (.row e size (els.set k x)))∧aF w0 I0 w' I m (l.set id (.row e size (els.set k x))):=by
 obtain⟨b,n,c,hm,qT⟩:∃ b n c,m id = .slice (some ⟨b,0,none⟩) n c∧a=⟨b,k*size+0,none⟩:=by
  cases ha with
  | bf _ _ _ _ q1 q2=>exact q2 e size els (.inl ho)
 subst qT
 obtain⟨xs,k1,k2,k3,k4⟩:=ah.obj id _ ho
 rw[hm] at k1
 obtain⟨j1,pK⟩:=k1
 rcases pK with ⟨hv,_⟩ | ⟨g,cap,cur,hv,hb,hg,fC,nH,aR,nS⟩
 ·cases hv
 injection hv with bX gQ vk
 injection bX with bX;injection bX with bX;subst bX;subst gQ;subst vk
 have ht:∀ ds,x ≠ .aI ds:=fun ds e=>by subst e;simp[D.cells,D.one] at h1
 obtain⟨q1,q2,q3⟩:=hx.cells ht
 have jr:∀ u∈v.cells.toList,u.oneCell'=true:=by
  intro u hu
  obtain⟨i,hi,rfl⟩:=List.mem_iff_getElem.1 hu
  have dN:i < x.cells.length:=by simp at hi;omega
  exact(q3 i _ x.cells[i] (by rw[←Array.getElem?_toList];exact List.getElem?_eq_getElem hi) (List.getElem?_eq_getElem dN)).one (q2 _ (List.getElem_mem dN))
 have ko:v.cells.toList.length=size:=by simp[q1,hc]
 have hmul:k*size+size≤els.length*size:=by
  have:(k+1)*size≤els.length*size:=Nat.mul_le_mul_right _ hk
  rw[Nat.succ_mul] at this;exact this
 have Ae:els.length*size≤cur.size:=by rw[aR];exact Nat.mul_le_mul_right _ fC
 have jv:(sizeOf ty).run P w = .ok v.cells.size w:=by
  cases hi:V.E ty with
  | none=>simp only[bq,hi,Option.map_none,Option.getD_none] at hn;omega
  | some i=>
   rw[mz hE hi w]
   simp only[bq,hi,Option.map_some,Option.getD_some] at hn
   congr 1;omega
 have c7:=run_storeCells_at P b (k*size) e v.cells.toList 0 cur w hg (by rw[ko];omega) jr
 refine⟨_,by simp only[Instr.storeAt,Instr.sureAddr,Sem.run_bind,Sem.run_pure,Result.andThen_ok,storeVar,jv,ne_eq,not_true_eq_false,if_false,Nat.add_zero];exact c7,?_⟩
 simp only[Nat.add_zero,ko]
 generalize fo:(cur.toList.take (k*size)++v.cells.toList++cur.toList.drop (k*size+size)).toArray=new
 have iY:new.toList=cur.toList.take (k*size)++v.cells.toList++cur.toList.drop (k*size+size):=by subst fo;simp
 have gO:new.size=cur.size:=by
  rw[←Array.length_toList,iY]
  simp only[List.length_append,List.length_take,List.length_drop,Array.length_toList,ko] at *
  omega
 have vm:new.toList.take (els.length*size)=xs.take (k*size)++v.cells.toList++xs.drop (k*size+size):=by
  rw[iY,←nS]
  exact Nu _ _ _ _ _ hmul (by rw[Array.length_toList];exact Ae) ko
 refine ah.Hl (n:=els.length) (c:=c) (cur:=cur) (xs:=xs.take (k*size)++v.cells.toList++xs.drop (k*size+size)) ho hm hg ⟨?_,.inr ⟨b,c,new,?_,hb,setRow_heap w b cur new e (0,0) hg,?_,nH,by rw[gO,aR],?_⟩⟩ ?_ ?_
 ·simp only[List.length_append,List.length_take,List.length_drop,j1,ko,List.length_set];omega
 ·simp
 ·simpa using fC
 ·rw[List.length_set];exact vm
 ·intro d hd
  rcases List.mem_or_eq_of_mem_set hd with hd | rfl
  ·exact k2 d hd
  exact⟨hc,q2⟩
 intro j u y hu hy
 rw[Jd els k x (fun d hd=>(k2 d hd).1) hk] at hy
 have cG:(flat els).length=els.length*size:=jm els (fun d hd=>(k2 d hd).1)
 rw[List.append_assoc,List.getElem?_append] at hu hy
 have l1:(xs.take (k*size)).length=k*size:=by rw[List.length_take];omega
 have l2:((flat els).take (k*size)).length=k*size:=by rw[List.length_take];omega
 rw[l1] at hu;rw[l2] at hy
 by_cases hj:j < k*size
 ·rw[if_pos hj] at hu hy
  rw[List.getElem?_take,if_pos hj] at hu hy
  exact k3 j u y hu hy
 rw[if_neg hj] at hu hy
 rw[List.getElem?_append] at hu hy
 rw[ko] at hu;rw[hc] at hy
 by_cases pM:j - k*size < size
 ·rw[if_pos pM] at hu hy
  exact q3 _ u y (by simpa using hu) hy
 rw[if_neg pM] at hu hy
 rw[List.getElem?_drop] at hu hy
 exact k3 _ u y hu hy
theorem aaI {size:Nat} {els:List D} (hs:∀ d∈els,d.cells.length=size) {k off:Nat} {d:D} (hk:els[k]?=some d) {X:List D} (ho:off+X.length≤size) :
  (flat els).take (k*size)++(d.cells.take off++X++d.cells.drop (off+X.length))++(flat els).drop (k*size+size)=(flat els).take (k*size+off)++X++(flat els).drop (k*size+(off+X.length)):=by
 have hd:=hs d (List.mem_of_getElem? hk)
 obtain⟨fL,rfl⟩:=List.getElem?_eq_some_iff.1 hk
 have e:flat els=flat (els.take k)++(els[k].cells++flat (els.drop (k+1))):=by
  conv=>lhs;rw[←List.take_append_drop k els]
  unfold flat
  rw[List.flatMap_append,List.drop_eq_getElem_cons fL,List.flatMap_cons]
 have h1:(flat (els.take k)).length=k*size:=by rw[jm (els.take k) (fun d hd=>hs d (List.mem_of_mem_take hd)),List.length_take];congr 1;omega
 rw[e]
 have t1:(flat (els.take k)++(els[k].cells++flat (els.drop (k+1)))).take (k*size)=flat (els.take k):=by rw[←h1];simp
 have t2:(flat (els.take k)++(els[k].cells++flat (els.drop (k+1)))).drop (k*size+size)=flat (els.drop (k+1)):=by rw[←h1,←hd];simp
 have t3:(flat (els.take k)++(els[k].cells++flat (els.drop (k+1)))).take (k*size+off)=flat (els.take k)++els[k].cells.take off:=by
  rw[←h1,List.take_append,List.take_of_length_le (by omega),Nat.add_sub_cancel_left,List.take_append_of_le_length (by omega)]
 have t4:(flat (els.take k)++(els[k].cells++flat (els.drop (k+1)))).drop (k*size+(off+X.length))=els[k].cells.drop (off+X.length)++flat (els.drop (k+1)):=by
  rw[←h1,List.drop_append,List.drop_eq_nil_of_le (by omega),Nat.add_sub_cancel_left,List.drop_append_of_le_length (by omega),List.nil_append]
 rw[t1,t2,t3,t4]
 simp
theorem Wz (hE:cp P V.E) (ah:aF w0 I0 w I m l) {id k off:Nat} {ty e size:Nat} {els cs:List D} {x:D} {v:Value} {a:Addr} (ho:l[id]?=some (.row e size els)) (ha:aq I m l (.pointer (some a)) (.bf id k off))
  (hx:Rd I v x) (eV:els[k]?=some (.agg cs)) (xC:off+x.cells.length≤size) (h1:x.cells.all D.one=true) (hk:k < els.length) (hn:x.cells.length=bq V.E ty) (bO:0 < x.cells.length) :
  ∃ w',(Instr.storeAt ty (.pointer (some a)) v).run P w = .ok () w'∧Le I m l I m (l.set id (.row e size (els.set k (.agg (setAt cs off x.cells)))))∧aF w0 I0 w' I m (l.set id (.row e size (els.set k (.agg (setAt cs off x.cells))))):=by
 obtain⟨b,n,c,hm,qT⟩:∃ b n c,m id = .slice (some ⟨b,0,none⟩) n c∧a=⟨b,k*size+off,none⟩:=by
  cases ha with
  | bf _ _ _ _ q1 q2=>exact q2 e size els (.inl ho)
 subst qT
 obtain⟨xs,k1,k2,k3,k4⟩:=ah.obj id _ ho
 rw[hm] at k1
 obtain⟨j1,pK⟩:=k1
 rcases pK with ⟨hv,_⟩ | ⟨g,cap,cur,hv,hb,hg,fC,nH,aR,nS⟩
 ·cases hv
 injection hv with bX gQ vk
 injection bX with bX;injection bX with bX;subst bX;subst gQ;subst vk
 have ht:∀ ds,x ≠ .aI ds:=fun ds e=>by subst e;simp[D.cells,D.one] at h1
 obtain⟨q1,q2,q3⟩:=hx.cells ht
 have jr:∀ u∈v.cells.toList,u.oneCell'=true:=by
  intro u hu
  obtain⟨i,hi,rfl⟩:=List.mem_iff_getElem.1 hu
  have dN:i < x.cells.length:=by simp at hi;omega
  exact(q3 i _ x.cells[i] (by rw[←Array.getElem?_toList];exact List.getElem?_eq_getElem hi) (List.getElem?_eq_getElem dN)).one (q2 _ (List.getElem_mem dN))
 obtain⟨c0,uR⟩:∃ c0,c0=x.cells.length:=⟨_,rfl⟩
 have ko:v.cells.toList.length=c0:=by simp[q1,uR]
 have hmul:k*size+size≤els.length*size:=by
  have:(k+1)*size≤els.length*size:=Nat.mul_le_mul_right _ hk
  rw[Nat.succ_mul] at this;exact this
 have Ae:els.length*size≤cur.size:=by rw[aR];exact Nat.mul_le_mul_right _ fC
 have jv:(sizeOf ty).run P w = .ok v.cells.size w:=by
  cases hi:V.E ty with
  | none=>simp only[bq,hi,Option.map_none,Option.getD_none] at hn;omega
  | some i=>
   rw[mz hE hi w]
   simp only[bq,hi,Option.map_some,Option.getD_some] at hn
   congr 1;omega
 have c7:=run_storeCells_at P b (k*size+off) e v.cells.toList 0 cur w hg (by rw[ko];omega) jr
 refine⟨_,by simp only[Instr.storeAt,Instr.sureAddr,Sem.run_bind,Sem.run_pure,Result.andThen_ok,storeVar,jv,ne_eq,not_true_eq_false,if_false,Nat.add_zero];exact c7,?_⟩
 simp only[Nat.add_zero,ko]
 generalize fo:(cur.toList.take (k*size+off)++v.cells.toList++cur.toList.drop (k*size+off+c0)).toArray=new
 have iY:new.toList=cur.toList.take (k*size+off)++v.cells.toList++cur.toList.drop (k*size+off+c0):=by subst fo;simp
 have gO:new.size=cur.size:=by
  rw[←Array.length_toList,iY]
  simp only[List.length_append,List.length_take,List.length_drop,Array.length_toList,ko] at *
  omega
 have vm:new.toList.take (els.length*size)=xs.take (k*size+off)++v.cells.toList++xs.drop (k*size+off+c0):=by
  rw[iY,←nS]
  exact Nu _ _ _ _ _ (by omega) (by rw[Array.length_toList];exact Ae) ko
 have hlen:∀ d∈els,d.cells.length=size:=fun d hd=>(k2 d hd).1
 have ajD:cs.length=size:=hlen (.agg cs) (List.mem_of_getElem? eV)
 have u9:(setAt cs off x.cells).length=size:=by unfold setAt;simp;omega
 refine ah.Hl (n:=els.length) (c:=c) (cur:=cur) (xs:=xs.take (k*size+off)++v.cells.toList++xs.drop (k*size+off+c0)) ho hm hg ⟨?_,.inr ⟨b,c,new,?_,hb,setRow_heap w b cur new e (0,0) hg,?_,nH,by rw[gO,aR],?_⟩⟩ ?_ ?_
 ·simp only[List.length_append,List.length_take,List.length_drop,j1,ko,List.length_set];omega
 ·simp
 ·simpa using fC
 ·rw[List.length_set];exact vm
 ·intro d hd
  rcases List.mem_or_eq_of_mem_set hd with hd | rfl
  ·exact k2 d hd
  refine⟨u9,fun y hy=>?_⟩
  have hy:y∈setAt cs off x.cells:=hy
  unfold setAt at hy
  rcases List.mem_append.1 hy with hy | hy
  ·rcases List.mem_append.1 hy with hy | hy
   ·exact(k2 _ (List.mem_of_getElem? eV)).2 y (List.mem_of_mem_take hy)
   exact q2 y hy
  exact(k2 _ (List.mem_of_getElem? eV)).2 y (List.mem_of_mem_drop hy)
 intro j u y hu hy
 rw[Jd els k _ hlen hk] at hy
 have hy:((flat els).take (k*size)++(cs.take off++x.cells++cs.drop (off+x.cells.length))++(flat els).drop (k*size+size))[j]?=some y:=by
  simpa [D.cells,setAt] using hy
 rw[show cs=(D.agg cs).cells from rfl,aaI hlen eV xC] at hy
 rw[Nat.add_assoc] at hu
 rw[←uR] at hy
 have cG:(flat els).length=els.length*size:=jm els hlen
 rw[List.append_assoc,List.getElem?_append] at hu hy
 have l1:(xs.take (k*size+off)).length=k*size+off:=by rw[List.length_take];omega
 have l2:((flat els).take (k*size+off)).length=k*size+off:=by rw[List.length_take];omega
 rw[l1] at hu;rw[l2] at hy
 by_cases hj:j < k*size+off
 ·rw[if_pos hj] at hu hy
  rw[List.getElem?_take,if_pos hj] at hu hy
  exact k3 j u y hu hy
 rw[if_neg hj] at hu hy
 rw[List.getElem?_append] at hu hy
 rw[ko] at hu;rw[←uR] at hy
 by_cases pM:j - (k*size+off) < c0
 ·rw[if_pos pM] at hu hy
  exact q3 _ u y (by simpa using hu) hy
 rw[if_neg pM] at hu hy
 rw[List.getElem?_drop] at hu hy
 exact k3 _ u y hu hy
end
end Go.aj
namespace Go.aj
open Go Go.RowKit
variable [bh]
def Cells (I:aw) (vs:List Value) (ds:List D):Prop:=vs.length=ds.length∧(∀ d∈ds,d.one=true)∧∀ (i:Nat) v d,vs[i]?=some v→ds[i]?=some d→Rd I v d
def qz (I:aw) (m:Nat→Value) (L:List AO) (vs:List Value) (ts:List T):Prop:=vs.length=ts.length∧(∀ v∈vs,v.oneCell'=true)∧∀ (i:Nat) v t,vs[i]?=some v→ts[i]?=some t→aq I m L v t
theorem qz.set {I:aw} {m:Nat→Value} {L:List AO} {vs xs:List Value} {ds ys:List T} {off:Nat} (h:qz I m L vs ds) (k:qz I m L xs ys) (hle:off+ys.length≤ds.length) :
  qz I m L (vs.take off++xs++vs.drop (off+xs.length)) (setAt ds off ys):=by
 obtain⟨h1,h2,h3⟩:=h
 obtain⟨k1,k2,k3⟩:=k
 refine⟨by simp[setAt];omega,fun d hd=>?_,fun i v d hv hd=>?_⟩
 ·simp only[List.mem_append] at hd
  rcases hd with (hd | hd) | hd
  ·exact h2 d (List.mem_of_mem_take hd)
  ·exact k2 d hd
  exact h2 d (List.mem_of_mem_drop hd)
 have l1:(vs.take off).length=off:=by simp;omega
 have l2:(ds.take off).length=off:=by simp;omega
 rw[List.append_assoc,List.getElem?_append,l1] at hv
 rw[setAt,List.append_assoc,List.getElem?_append,l2] at hd
 by_cases hi:i < off
 ·rw[if_pos hi,List.getElem?_take,if_pos hi] at hv hd
  exact h3 i v d hv hd
 rw[if_neg hi,List.getElem?_append] at hv hd
 rw[k1] at hv
 by_cases gy:i - off < ys.length
 ·rw[if_pos gy] at hv hd;exact k3 _ v d hv hd
 rw[if_neg gy,List.getElem?_drop] at hv hd;exact h3 _ v d hv hd
section
variable {P:Program} {V:Env} {w0 w:World} {I0 I:aw} {m:Nat→Value} {l L:List AO} {nid:Nat} {o:Oper} {ρ:Operand→Value} {ρT:Operand→T}
theorem Wj {v:Value} {d:D} (h:Rd I v d) (jr:d.cells.all D.one=true):Cells I v.cells.toList d.cells:=by
 have ht:∀ ds,d ≠ .aI ds:=fun ds e=>by subst e;simp[D.cells,D.one] at jr
 obtain⟨q1,q2,q3⟩:=h.cells ht
 exact⟨by simpa using q1,q2,fun i u x hu hx=>q3 i u x (by simpa using hu) hx⟩
theorem jl (place:Nat→Option (Nat×Nat)):∀ (parts:List (Nat×Operand)) (cells:Array Value) (ds ox:List T),qz I m L cells.toList ds→(∀ p∈parts,aq I m L (ρ p.2) (ρT p.2)) →
  oy place ds (parts.map fun p=>(p.1,ρT p.2))=some ox→∃ nB,Instr.fill place cells (parts.map fun p=>(p.1,ρ p.2))=some nB∧qz I m L nB.toList ox
 | [],cells,ds,ox,hc,_,h=>by
  simp[oy] at h;subst h
  exact⟨cells,rfl,hc⟩
 | p::parts,cells,ds,ox,hc,hr,h=>by
  simp only[List.map_cons,oy] at h
  cases hp:place p.1 with
  | none=>simp[hp] at h
  | some os=>
    obtain⟨off,size⟩:=os
    simp only[hp] at h
    split at h
    ·rename_i hle
     obtain⟨c1,c2,c3⟩:=Iw (hr p (by simp)) hle.2.2
     have xv:qz I m L (ρ p.2).cells.toList (bu (ρT p.2)):=⟨c1,c2,c3⟩
     have aK:(ρ p.2).cells.size=size:=by have:=xv.1;simp at this;omega
     have iV:off+(ρ p.2).cells.size≤cells.size:=by have:=hc.1;simp at this;omega
     obtain⟨g1,g2⟩:=Great.foldl_set off (ρ p.2).cells.toList 0 cells
     generalize aR:((ρ p.2).cells.toList.zipIdx 0).foldl (fun cs (x:Value×Nat)=>cs.setIfInBounds (off+x.2) x.1) cells=cs at *
     have abE:cs.toList=cells.toList.take off++(ρ p.2).cells.toList++cells.toList.drop (off+(ρ p.2).cells.toList.length):=by
      apply List.ext_getElem?
      intro k
      have:=g2 k
      rw[Array.getElem?_toList,this]
      have l1:(cells.toList.take off).length=off:=by simp;omega
      rw[List.append_assoc,List.getElem?_append,l1,List.getElem?_append]
      simp only[Nat.add_zero,Array.length_toList]
      by_cases h1:k < off
      ·rw[if_neg (by omega),if_pos h1,List.getElem?_take,if_pos h1];simp
      rw[if_neg h1]
      by_cases h2:k - off < (ρ p.2).cells.size
      ·rw[if_pos (by omega),if_pos h2]
      rw[if_neg (by omega),if_neg h2,List.getElem?_drop]
      rw[show off+(ρ p.2).cells.size+(k - off - (ρ p.2).cells.size)=k by omega];simp
     obtain⟨nB,hf,eU⟩:=jl place parts cs (setAt ds off (bu (ρT p.2))) ox (by rw[abE];exact hc.set xv (by have:=hc.1;simp at this;omega)) (fun q hq=>hr q (by simp[hq])) h
     refine⟨nB,?_,eU⟩
     simp only[List.map_cons]
     unfold Instr.fill
     simp only[hp]
     rw[if_neg (by simp[aK];omega),←hf]
     congr 1
     rw[←aR,←Array.foldl_toList,Array.toList_zipIdx]
    cases h
theorem YL (hE:cp P V.E) {t:TypeId} {sz bt:Nat} {z:List D} {ds:List T} {fs:List (Nat×TypeId)} {parts:Array (Nat×Operand)} (hs:V.E t=some ⟨sz,bt,z,.struct fs⟩) (hr:∀ p∈parts.toList,aq I m L (ρ p.2) (ρT p.2))
  (hf:oy (yt V.E fs) (z.map lU) (parts.toList.map fun p=>(p.1,ρT p.2))=some ds) (bA:∀ f∈fs,(V.E f.2).isSome=true) :
  ∃ u,(Instr.build t (parts.map fun(i,x)=>(i,ρ x))).run P w = .ok u w∧aq I m L u (jy true ds):=by
 obtain⟨gs,hu,rfl⟩:=NH hE hs
 obtain⟨x,zv,h1,h2,h3,h4,h5,h6,h7,h8⟩:=ga (hE t _ hs)
 have hc:qz I m L zv.cells.toList (z.map lU):=by
  obtain⟨k1,k2,k3⟩:=se I _ _ h5
  have k1:zv.cells.toList.length=z.length:=k1
  refine⟨by simpa using k1,fun v hv=>?_,fun i v t hv ht=>?_⟩
  ·obtain⟨j,hj,rfl⟩:=List.mem_iff_getElem.1 hv
   have il:j < z.length:=by omega
   exact(k3 j _ _ (List.getElem?_eq_getElem hj) (List.getElem?_eq_getElem il)).one (k2 _ (List.getElem_mem il))
  rw[List.getElem?_map] at ht
  cases hz:z[i]? with
  | none=>simp[hz] at ht
  | some d=>simp[hz] at ht;subst ht;exact NW (Cy h5 hv hz)
 obtain⟨nB,z7,eU⟩:=jl (ρ:=ρ) (ρT:=ρT) (m:=m) (L:=L) (yt V.E _) parts.toList zv.cells _ ds hc hr hf
 have oH:∀ xq:List Field,(∀ f∈xq.map (fun f=>(f.offset,f.type)),(V.E f.2).isSome=true)→xq.mapM (fun f=>(P.info? f.type).map fun i=>(f.offset,i.size))=some (xq.map fun f=>(f.offset,bq V.E f.type)):=by
  intro xq hg
  induction xq with
  | nil=>rfl
  | cons f xq ih=>
   obtain⟨i,hi⟩:=Option.isSome_iff_exists.1 (hg (f.offset,f.type) (by simp))
   obtain⟨x',_,k1,k2,_⟩:=ga (hE _ _ hi)
   have e1:(P.info? f.type).map (fun i=>(f.offset,i.size))=some (f.offset,bq V.E f.type):=by
    simp only at hi
    simp[k1,k2,bq,hi]
   simp only[List.mapM_cons,e1,ih (fun q hq=>hg q (by simp at hq ⊢;exact .inr hq)),List.map_cons]
   rfl
 have hb:P.built t (parts.map fun(i,x)=>(i,ρ x)).toList=some nB:=by
  unfold Program.built
  simp only[h1,hu,h4,oH gs.toList bA]
  rw[←z7]
  have e1:(parts.map fun(i,x)=>(i,ρ x)).toList=parts.toList.map fun p=>(p.1,ρ p.2):=by simp
  rw[e1]
  congr 1
  funext i
  simp only[yt,List.getElem?_toArray,List.getElem?_map,Option.map_map]
  rfl
 refine⟨_,run_build w t _ _ hb,?_⟩
 have:=L2 (I:=I) (m:=m) (L:=L) (i:=⟨nB.size,0,[],.struct []⟩) (vs:=nB.toList) (ts:=ds) eU.1 (by simp) (by simp[TD.agg]) (fun j v t hv ht=>⟨eU.2.2 j v t hv ht,eU.2.1 v (List.mem_of_getElem? hv)⟩)
 simpa [TD.agg] using this
theorem aF.known (ah:aF w0 I0 w I m L) (e:TypeId) (cs:Array Value) (size:Nat) (ds:List D) (n:Nat) (hn:ds.length=n) (hs:∀ d∈ds,d.cells.length=size∧∀ x∈d.cells,x.one=true) (hlen:cs.size=n*size) (jX:n≤maxLen)
  (ch:∀ (j:Nat) x y,cs[j]?=some x→(flat ds)[j]?=some y→Rd I x y) :
  ∃ J,Le I m L J m L∧aF w0 I0 (w.alloc (.cells cs e)) J m L∧Rd J (.slice (some ⟨w.heap.size,0,none⟩) n n) (.slice size ds):=by
 have bS:=ah.sat.eZ (Nat.le_refl w.heap.size)
 let J:=I.ez w.heap.size cs.toList
 have hle:I.le J:=⟨fun b o v hc=>by
  have hb:b≠w.heap.size:=by rintro rfl;rw[bS.1 o] at hc;cases hc
  simp[J,aw.ez,hb,hc],fun _ _ h=>h,fun _ h=>h⟩
 have im:∀ b,b≠w.heap.size→J.cell b=I.cell b:=fun b hb=>by funext o;simp[J,aw.ez,hb]
 have du:dH (w.alloc (.cells cs e)) J:=⟨fun b o v hc=>by
  by_cases hb:b=w.heap.size
  ·subst hb
   simp only[J,aw.ez,if_true] at hc
   rw[World.cell?_alloc_new]
   cases hx:cs[o]? with
   | none=>simp[hx,bS.1 o] at hc
   | some x=>simpa [hx] using hc
  ·rw[im b hb] at hc
   rw[World.cell?_alloc_lt w _ _ (ah.sat.lt hc)];exact ah.sat.cell b o v hc,fun b es hc=>by
  have hh:=ah.sat.mp b es hc
  exact gd.to (Below.heap_alloc w _ b (ah.sat.qb hc)) hh,fun b hd=>(Below.heap_alloc w _ b (ah.sat.mr hd)).trans (ah.sat.df b hd),fun g d h=>(ah.sat.dA g d h).mono hle⟩
 obtain⟨r1,r2⟩:=ah.call (eB.alloc (eB.refl _ _) (Nat.le_refl _) _) (.of hle (fun b hb=>im b (by omega)) (fun _ _=>rfl)) du
 refine⟨J,r2,r1,.slice _ 0 n n size ds (fun k=>(cs[k]?).getD undef) hn (Nat.le_refl _) jX hs (fun k hk=>?_) (fun k x hx=>?_)⟩
 ·have:cs[k]?=some (cs[k]'(by omega)):=Array.getElem?_eq_getElem (by omega)
  simp[J,aw.ez,this]
 have hk:k < n*size:=by rw[←hn,←jm ds (fun d hd=>(hs d hd).1)];exact(List.getElem?_eq_some_iff.1 hx).1
 have:cs[k]?=some (cs[k]'(by omega)):=Array.getElem?_eq_getElem (by omega)
 rw[this];exact(ch k _ x this hx).mono hle
theorem UH:∀ (ps:List (Nat×Operand)) (ds:List D),(∀ p∈ps,aq I m L (ρ p.2) (ρT p.2))→ps.mapM (fun p=>kj (ρT p.2))=some ds→ps.length=ds.length∧∀ (i:Nat) p d,ps[i]?=some p→ds[i]?=some d→Rd I (ρ p.2) d
 | [],ds,_,h=>by simp at h;subst h;simp
 | p::ps,ds,hr,h=>by
  simp only[List.mapM_cons,Option.bind_eq_bind,Option.bind_eq_some_iff,Option.pure_def,Option.some.injEq] at h
  obtain⟨x,hx,xs,dw,rfl⟩:=h
  obtain⟨h1,h2⟩:=UH ps xs (fun q hq=>hr q (by simp[hq])) dw
  refine⟨by simp[h1],fun i q d hq hd=>?_⟩
  rcases i with _ | i
  ·simp at hq hd;subst hq;subst hd;exact GQ (hr p (by simp)) hx
  simp at hq hd;exact h2 i q d hq hd
theorem OI (hE:cp P V.E) (ah:aF w0 I0 w I m L) {t e:TypeId} {sz bt:Nat} {z:List D} {len:Nat} {parts:Array (Nat×Operand)} {ds:List D} (hs:V.E t=some ⟨sz,bt,z,.slice e⟩)
  (p1:parts.toList.length=ds.length) (p2:∀ (i:Nat) p d,parts.toList[i]?=some p→ds[i]?=some d→Rd I (ρ p.2) d) (he:(V.E e).isSome=true∧0 < bq V.E e) (hlen:len≠0)
  (hc:parts.toList.map (·.1)=List.range len∧len*bq V.E e≤16777216∧ds.all (fun d=>d.cells.length == bq V.E e&&d.cells.all D.one)=true) :
  ∃ w' J,(Instr.buildSlice t len (parts.map fun(i,x)=>(i,ρ x))).run P w = .ok (.slice (some ⟨w.heap.size,0,none⟩) len len) w'∧Le I m L J m L∧aF w0 I0 w' J m L∧Rd J (.slice (some ⟨w.heap.size,0,none⟩) len len) (.slice (bq V.E e) ds):=by
 have hu:=mG hE hs
 obtain⟨kO,hc3,R6⟩:=hc
 obtain⟨i,hi⟩:=Option.isSome_iff_exists.1 he.1
 obtain⟨x,zv,k1,k2,k3,k4,k5,k6,k7,k8⟩:=ga (hE e i hi)
 have aK:bq V.E e=i.size:=by simp[bq,hi]
 rw[aK] at hc3 R6 ⊢
 have bO:0 < i.size:=by rw[←aK];exact he.2
 have oH:parts.toList.length=len:=by have:=congrArg List.length kO;simpa using this
 have Sc:ds.length=len:=by omega
 have bA:∀ d∈ds,d.cells.length=i.size∧∀ y∈d.cells,y.one=true:=fun d hd=>by
  have:=List.all_eq_true.1 R6 d hd
  simp only[Bool.and_eq_true,beq_iff_eq,List.all_eq_true] at this
  exact this
 have nI:∀ (j:Nat) p d,parts.toList[j]?=some p→ds[j]?=some d→Cells I (ρ p.2).cells.toList d.cells:=fun j p d hp hd=>
  Wj (p2 j p d hp hd) (List.all_eq_true.2 (bA d (List.mem_of_getElem? hd)).2)
 have aca:∀ v∈parts.toList.map (fun p=>ρ p.2),v.cells.size=i.size:=by
  intro v hv
  obtain⟨p,hp,rfl⟩:=List.mem_map.1 hv
  obtain⟨j,hj,rfl⟩:=List.mem_iff_getElem.1 hp
  have Sr:j < ds.length:=by omega
  have:=(nI j _ _ (List.getElem?_eq_getElem hj) (List.getElem?_eq_getElem Sr)).1
  have h2:=(bA _ (List.getElem_mem Sr)).1
  rw[Array.length_toList] at this;omega
 obtain⟨r,hf,eR,Kt⟩:=Great.fill_dense bO (parts.toList.map fun p=>ρ p.2) 0 ((Array.range (len*i.size)).map (zv.cells[· % zv.cells.size]!)) aca (by simp[oH])
 have ace:(parts.map fun(i,x)=>(i,ρ x)).toList=((parts.toList.map fun p=>ρ p.2).zipIdx 0).map fun x=>(x.2,x.1):=by
  apply List.ext_getElem?
  intro j
  simp only[Array.toList_map,List.getElem?_map,List.getElem?_zipIdx,Nat.zero_add,Option.map_map]
  cases hp:parts.toList[j]? with
  | none=>simp
  | some p=>
   have hj:j < len:=by rw[←oH];exact(List.getElem?_eq_some_iff.1 hp).1
   have:(parts.toList.map (·.1))[j]?=some p.1:=by rw[List.getElem?_map,hp];rfl
   rw[kO,List.getElem?_range hj] at this
   injection this with this
   simp[this]
 have bP:=run_buildSlice (P:=P) w t e len (parts.map fun(i,x)=>(i,ρ x)) r x zv hu k1 k4 (by rw[k2];omega) (by rw[k2];have:=Nat.mul_pos (Nat.pos_of_ne_zero hlen) bO;omega) (by rw[ace,k2];exact hf)
 have SP:r.size=len*i.size:=by rw[eR];simp
 obtain⟨J,r2,r1,ch⟩:=ah.known e r i.size ds len Sc bA SP (by unfold maxLen;have:len≤len*i.size:=Nat.le_mul_of_pos_right _ bO;omega) (fun j u y hu hy=>by
  have nN:j < len*i.size:=by rw[←SP];exact(Array.getElem?_eq_some_iff.1 hu).1
  rw[Kt j,if_pos (by simp[oH];exact nN)] at hu
  simp only[Nat.sub_zero,List.getElem?_map] at hu
  have hq:j / i.size < len:=Nat.div_lt_of_lt_mul (by rw[Nat.mul_comm];exact nN)
  have abV:j % i.size < i.size:=Nat.mod_lt _ bO
  have hp:parts.toList[j / i.size]?=some (parts.toList[j / i.size]'(by omega)):=List.getElem?_eq_getElem (by omega)
  have hd:ds[j / i.size]?=some (ds[j / i.size]'(by omega)):=List.getElem?_eq_getElem (by omega)
  rw[hp] at hu
  have cG:=flat_get ds (fun d hd=>(bA d hd).1) (j / i.size) (j % i.size) _ hd abV
  rw[Nat.mul_comm,Nat.div_add_mod] at cG
  rw[cG] at hy
  exact(nI _ _ _ hp hd).2.2 (j % i.size) u y (by simpa using hu) hy)
 exact⟨_,J,bP,r2,r1,ch⟩
theorem aF.BX (ah:aF w0 I0 w I m l) {w':World} {e size:Nat} {els:List D} {v:Value} {row:Option Nat} {lo:List AO} (fm:lo.length=l.length) (lD:∀ (k:Nat) a,lo[k]?=some a→a = .dead∨l[k]?=some a)
  (rj:∀ (k:Nat) a,a.isVar=true→l[k]?=some a→lo[k]?=some a)
  (hg:w.grownBy w' row) (qV:w.drawn≤w'.drawn) (oD:∀ b,row=some b→w0.heap.size≤b∧I.eZ b∧∀ k,alive lo k=true→own (m k)≠some b) (abJ:∀ b,row=some b→¬ I.df b) (lF:∀ b,own v=some b→w0.heap.size≤b∧I.eZ b∧∀ k,alive lo k=true→own (m k)≠some b)
  {xs:List Value} (lL:w'.ownsRow w0.heap.size e size v els.length xs) (hs:∀ d∈els,d.cells.length=size∧∀ x∈d.cells,x.one=true) (ch:∀ (j:Nat) x y,xs[j]?=some x→(flat els)[j]?=some y→Rd I x y) (u9:∃ A n c,v = .slice A n c) :
  Le I m l I (aP m l.length v) (lo++[.row e size els])∧aF w0 I0 w' I (aP m l.length v) (lo++[.row e size els])∧aq I (aP m l.length v) (lo++[.row e size els]) v (.row l.length):=by
 have bF:∀ k,k < l.length→(lo++[AO.row e size els])[k]?=lo[k]?:=fun k hk=>List.getElem?_append_left (by omega)
 have lI:(lo++[AO.row e size els])[l.length]?=some (.row e size els):=by rw[←fm];simp
 have hle:Le I m l I (aP m l.length v) (lo++[.row e size els]):=by
  refine⟨.refl I,by simp;omega,fun id an hv=>⟨?_,cO m v (by omega)⟩,fun id an hr=>⟨?_,cO m v (by omega)⟩,fun id e' s' els' an hh=>?_⟩
  ·unfold isVar at hv ⊢;rw[bF id an]
   cases ho:l[id]? with
   | none=>simp[ho] at hv
   | some o=>
    have bQ:o.isVar=true:=by simpa [ho] using hv
    rw[rj id o bQ ho];exact bQ
  ·unfold isRow at hr ⊢;rw[bF id an] at hr
   cases ho:lo[id]? with
   | none=>simp[ho] at hr
   | some o=>
    rcases lD id o ho with rfl | h
    ·simp[ho,AO.isRow] at hr
    rw[h];rw[ho] at hr;exact hr
  rw[bF id an] at hh
  rcases hh with hh | hh
  ·rcases lD id _ hh with h | h
   ·cases h
   exact⟨els',.inl h⟩
  rcases lD id _ hh with h | h
  ·cases h
  exact⟨els',.inr h⟩
 have JE:∀ k a,lo[k]?=some a→a ≠ .dead→∀ b,own (m k)=some b→w'.heap[b]?=w.heap[b]?:=by
  intro k a ha hd b hb
  have kM:l[k]?=some a:=(lD k a ha).resolve_left hd
  refine hg.block b ((ah.obj k a kM).lt hd hb).1 (fun he=>?_)
  exact(oD b he.symm).2.2 k (bN.2 ⟨a,ha,hd⟩) hb
 refine⟨hle,⟨ah.below.trans ⟨hg.os,hg.tape,hg.output,hg.size,fun k hk=>hg.block k (by have:=ah.below.size;omega) (fun he=>by have:=(oD k he.symm).1;omega),fun _=>qV⟩,⟨fun b o u hc=>?_,fun b es hc=>?_,fun b hd=>(hg.block b (ah.sat.mr hd) (fun he=>abJ b he.symm hd)).trans (ah.sat.df b hd),ah.sat.dA⟩,ah.ext,fun id o ho=>?_,fun i j b cm hi hj cI cJ=>?_⟩,?_⟩
 ·have bc:some b≠row:=fun he=>by rw[(oD b he.symm).2.1.1 o] at hc;cases hc
  exact(World.cell?_of_block (w:=w) (a:=⟨b,o,none⟩) (hg.block b (ah.sat.lt hc) bc)).trans (ah.sat.cell b o u hc)
 ·have bc:some b≠row:=fun he=>by rw[(oD b he.symm).2.1.2] at hc;cases hc
  have hh:=ah.sat.mp b es hc
  exact gd.to (hg.block b (ah.sat.qb hc) bc) hh
 ·by_cases an:id < l.length
  ·rw[bF id an] at ho;rw[cO m v (by omega)]
   by_cases hd:o = .dead
   ·subst hd;trivial
   exact(ah.obj id o ((lD id o ho).resolve_left hd)).iZ hle (JE id o ho hd) (fun _ _=>⟨rfl,rfl⟩)
  have:id=l.length:=by
   have:=(List.getElem?_eq_some_iff.1 ho).1;simp at this;omega
  subst this
  rw[lI] at ho;injection ho with ho;subst ho
  rw[fH]
  exact⟨xs,lL,hs,ch,fun b hb=>(lF b hb).2.1⟩
 ·have cW:∀ k,k≠l.length→alive (lo++[AO.row e size els]) k=true→alive lo k=true∧k < l.length:=by
   intro k hk ha
   obtain⟨o,ho,hd⟩:=bN.1 ha
   have fL:k < l.length:=by have:=(List.getElem?_eq_some_iff.1 ho).1;simp at this;omega
   rw[bF k fL] at ho
   exact⟨bN.2 ⟨o,ho,hd⟩,fL⟩
  by_cases h1:i=l.length
  ·subst h1;rw[fH] at cI;rw[cO m v (Ne.symm cm)] at cJ
   exact(lF b cI).2.2 j (cW j (Ne.symm cm) hj).1 cJ
  by_cases h2:j=l.length
  ·subst h2;rw[fH] at cJ;rw[cO m v cm] at cI
   exact(lF b cJ).2.2 i (cW i cm hi).1 cI
  rw[cO m v h1] at cI;rw[cO m v h2] at cJ
  have a1:=(cW i h1 hi).1
  have a2:=(cW j h2 hj).1
  obtain⟨o1,q1,d1⟩:=bN.1 a1
  obtain⟨o2,q2,d2⟩:=bN.1 a2
  exact ah.sep i j b cm (bN.2 ⟨o1,(lD i o1 q1).resolve_left d1,d1⟩) (bN.2 ⟨o2,(lD j o2 q2).resolve_left d2,d2⟩) cI cJ
 obtain⟨A,n,c,rfl⟩:=u9
 exact .row A n c _ (by simp;omega) (fun _=>fH m _ _)
theorem aF.agk (ah:aF w0 I0 w I m l) {w':World} {e size:Nat} {els:List D} {v:Value} {row:Option Nat} {lo:List AO} (fm:lo.length=l.length) (lD:∀ (k:Nat) a,lo[k]?=some a→a = .dead∨l[k]?=some a)
  (rj:∀ (k:Nat) a,a.isVar=true→l[k]?=some a→lo[k]?=some a)
  (hg:w.grownBy w' row) (qV:w.drawn≤w'.drawn) (oD:∀ b,row=some b→w0.heap.size≤b∧∀ k,alive lo k=true→own (m k)≠some b) {J:aw} (DQ:I.le J) (im:∀ b,own v≠some b→J.cell b=I.cell b∧J.mp b=I.mp b) (du:dH w' J) (lF:∀ b,own v=some b→w0.heap.size≤b∧∀ k,alive lo k=true→own (m k)≠some b)
  (cr:jM w0.heap.size w' J (aP m l.length v) (lo++[.bx e size els]) v (.bx e size els)) (u9:∃ A n c,v = .slice A n c) :
  Le I m l J (aP m l.length v) (lo++[.bx e size els])∧aF w0 I0 w' J (aP m l.length v) (lo++[.bx e size els])∧aq J (aP m l.length v) (lo++[.bx e size els]) v (.row l.length):=by
 have bF:∀ k,k < l.length→(lo++[AO.bx e size els])[k]?=lo[k]?:=fun k hk=>List.getElem?_append_left (by omega)
 have lI:(lo++[AO.bx e size els])[l.length]?=some (.bx e size els):=by rw[←fm];simp
 have hle:Le I m l J (aP m l.length v) (lo++[.bx e size els]):=by
  refine⟨DQ,by simp;omega,fun id an hv=>⟨?_,cO m v (by omega)⟩,fun id an hr=>⟨?_,cO m v (by omega)⟩,fun id e' s' els' an hh=>?_⟩
  ·unfold isVar at hv ⊢;rw[bF id an]
   cases ho:l[id]? with
   | none=>simp[ho] at hv
   | some o=>
    have bQ:o.isVar=true:=by simpa [ho] using hv
    rw[rj id o bQ ho];exact bQ
  ·unfold isRow at hr ⊢;rw[bF id an] at hr
   cases ho:lo[id]? with
   | none=>simp[ho] at hr
   | some o=>
    rcases lD id o ho with rfl | h
    ·simp[ho,AO.isRow] at hr
    rw[h];rw[ho] at hr;exact hr
  rw[bF id an] at hh
  rcases hh with hh | hh
  ·rcases lD id _ hh with h | h
   ·cases h
   exact⟨els',.inl h⟩
  rcases lD id _ hh with h | h
  ·cases h
  exact⟨els',.inr h⟩
 have JE:∀ k a,lo[k]?=some a→a ≠ .dead→∀ b,own (m k)=some b→w'.heap[b]?=w.heap[b]?:=by
  intro k a ha hd b hb
  have kM:l[k]?=some a:=(lD k a ha).resolve_left hd
  refine hg.block b ((ah.obj k a kM).lt hd hb).1 (fun he=>?_)
  exact(oD b he.symm).2 k (bN.2 ⟨a,ha,hd⟩) hb
 refine⟨hle,⟨ah.below.trans ⟨hg.os,hg.tape,hg.output,hg.size,fun k hk=>hg.block k (by have:=ah.below.size;omega) (fun he=>by have:=(oD k he.symm).1;omega),fun _=>qV⟩,du,⟨fun _ _ _ x=>DQ.cell _ _ _ (ah.ext.lc _ _ _ x),fun _ _ x=>DQ.mp _ _ (ah.ext.lm _ _ x),fun b hb x=>DQ.df b (ah.ext.ld b hb x),fun b hb=>?_,fun b hb=>?_⟩,fun id o ho=>?_,fun i j b cm hi hj cI cJ=>?_⟩,?_⟩
 ·exact(im b (fun he=>by have:=(lF b he).1;omega)).1.trans (ah.ext.cell b hb)
 ·exact(im b (fun he=>by have:=(lF b he).1;omega)).2.trans (ah.ext.mp b hb)
 ·by_cases an:id < l.length
  ·rw[bF id an] at ho;rw[cO m v (by omega)]
   by_cases hd:o = .dead
   ·subst hd;trivial
   exact(ah.obj id o ((lD id o ho).resolve_left hd)).iZ hle (JE id o ho hd) (fun b hb=>im b (fun he=>(lF b he).2 id (bN.2 ⟨o,ho,hd⟩) hb))
  have:id=l.length:=by
   have:=(List.getElem?_eq_some_iff.1 ho).1;simp at this;omega
  subst this
  rw[lI] at ho;injection ho with ho;subst ho
  rw[fH]
  exact cr
 ·have cW:∀ k,k≠l.length→alive (lo++[AO.bx e size els]) k=true→alive lo k=true∧k < l.length:=by
   intro k hk ha
   obtain⟨o,ho,hd⟩:=bN.1 ha
   have fL:k < l.length:=by have:=(List.getElem?_eq_some_iff.1 ho).1;simp at this;omega
   rw[bF k fL] at ho
   exact⟨bN.2 ⟨o,ho,hd⟩,fL⟩
  by_cases h1:i=l.length
  ·subst h1;rw[fH] at cI;rw[cO m v (Ne.symm cm)] at cJ
   exact(lF b cI).2 j (cW j (Ne.symm cm) hj).1 cJ
  by_cases h2:j=l.length
  ·subst h2;rw[fH] at cJ;rw[cO m v cm] at cI
   exact(lF b cJ).2 i (cW i cm hi).1 cI
  rw[cO m v h1] at cI;rw[cO m v h2] at cJ
  have a1:=(cW i h1 hi).1
  have a2:=(cW j h2 hj).1
  obtain⟨o1,q1,d1⟩:=bN.1 a1
  obtain⟨o2,q2,d2⟩:=bN.1 a2
  exact ah.sep i j b cm (bN.2 ⟨o1,(lD i o1 q1).resolve_left d1,d1⟩) (bN.2 ⟨o2,(lD j o2 q2).resolve_left d2,d2⟩) cI cJ
 obtain⟨A,n,c,rfl⟩:=u9
 exact .row A n c _ (by simp;omega) (fun _=>fH m _ _)
end
end Go.aj
