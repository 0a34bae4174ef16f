import Derived.WalkKit
import Derived.WalkSpells
import Derived.WalkLawsBesides
import Derived.Maps.AppendAt
import Derived.Deep.AppendLies
import Derived.Deep.MidRow
import Derived.Deep.Quiet
import Derived.Great.BuildSlice
set_option linter.all false
set_option linter.unnecessarySimpa false
set_option linter.deprecated false
set_option linter.unusedVariables false
set_option linter.unusedSimpArgs false
set_option linter.unusedSectionVars false
namespace Go.an
open Go Go.RowKit
inductive D where
 | bool (b:Bool)
 | int (k:IntKind) (n:Int)
 | str (s:ByteArray)
 | agg (cs:List D)
 | slice (size:Nat) (els:List D)
 | fn (f:FuncId)
 | wm
 | map (ks vs:List D)
 | qA
 | iface (t:TypeId) (d:D)
 | C6
 | bn (ds:List D)
 | aR (f:FuncId) (caps:List D)
 | box (d:D)
 deriving Inhabited
def D.cells:D→List D
 | .agg cs=>cs
 | d=>[d]
def D.one:D→Bool
 | .agg _=>false
 | .bn _=>false
 | _=>true
def flat (els:List D):List D:=els.flatMap D.cells
abbrev ME:=Array MapEntry×Nat
structure aC where
 cell:Nat→Nat→Option Value
 mp:Nat→Option ME
 df:Nat→Prop
structure aC.le (I J:aC):Prop where
 cell:∀ b o v,I.cell b o=some v→J.cell b o=some v
 mp:∀ b es,I.mp b=some es→J.mp b=some es
 df:∀ b,I.df b→J.df b
theorem aC.le.refl (I:aC):I.le I:=⟨fun _ _ _ h=>h,fun _ _ h=>h,fun _ h=>h⟩
theorem aC.le.trans {I J K:aC} (h:I.le J) (k:J.le K):I.le K:=⟨fun _ _ _ x=>k.cell _ _ _ (h.cell _ _ _ x),fun _ _ x=>k.mp _ _ (h.mp _ _ x),fun _ x=>k.df _ (h.df _ x)⟩
inductive Rd (I:aC):Value→D→Prop
 | bool (b):Rd I (.bool b) (.bool b)
 | int (k n):Rd I (.int k n) (.int k n)
 | str (s):Rd I (.string s) (.str s)
 | agg (cs:Array Value) (ds:List D):cs.size=ds.length→(∀ d∈ds,d.one=true)→(∀ (i:Nat) v d,cs[i]?=some v→ds[i]?=some d→Rd I v d)→Rd I (.agg cs) (.agg ds)
 | uj (A c size):c≤maxLen→Rd I (.slice A 0 c) (.slice size [])
 | slice (b off n c size:Nat) (els:List D) (val:Nat→Value):els.length=n→n≤c→c≤maxLen→(∀ d∈els,d.cells.length=size∧∀ x∈d.cells,x.one=true) →
   (∀ k,k < n*size→I.cell b (off+k)=some (val k))→(∀ (k:Nat) x,(flat els)[k]?=some x→Rd I (val k) x)→Rd I (.slice (some ⟨b,off,none⟩) n c) (.slice size els)
 | fn (f):Rd I (.func (.func f) #[] #[]) (.fn f)
 | wm:Rd I .nilFunc .wm
 | Iy:Rd I (.map none) (.map [] [])
 | map (b:Nat) (es:ME) (ks vs:List D):I.mp b=some es→es.1.size=ks.length→es.1.size=vs.length→(∀ (i:Nat) (e:MapEntry) (d:D),es.1[i]?=some e→ks[i]?=some d→Rd I e.key d)→(∀ (i:Nat) (e:MapEntry) (d:D),es.1[i]?=some e→vs[i]?=some d→Rd I e.val d)→Rd I (.map (some b)) (.map ks vs)
 | qA:Rd I (.pointer none) .qA
 | iface (t v d):Rd I v d→Rd I (.iface t v) (.iface t d)
 | C6:Rd I .nilIface .C6
 | bn (vs:Array Value) (ds:List D):vs.size=ds.length→(∀ (i:Nat) v d,vs[i]?=some v→ds[i]?=some d→Rd I v d)→Rd I (.tuple vs) (.bn ds)
 | aR (f) (vs:Array Value) (ds:List D):vs.size=ds.length→(∀ (i:Nat) v d,vs[i]?=some v→ds[i]?=some d→Rd I v d)→Rd I (.func (.func f) #[] vs) (.aR f ds)
 | box (b:Nat) (d:D) (val:Nat→Value):(∀ x∈d.cells,x.one=true)→(∀ k,k < d.cells.length→I.cell b k=some (val k))→(∀ (k:Nat) x,d.cells[k]?=some x→Rd I (val k) x)→Rd I (.pointer (some ⟨b,0,none⟩)) (.box d)
theorem Rd.Fu {I J:aC} (hc:∀ b o v,I.cell b o=some v→J.cell b o=some v) (hm:∀ b es,I.mp b=some es→J.mp b=some es) {v:Value} {d:D} (r:Rd I v d):Rd J v d:=by
 induction r with
 | bool b=>exact .bool b
 | int k n=>exact .int k n
 | str s=>exact .str s
 | agg cs ds h1 h2 _ ih=>exact .agg cs ds h1 h2 ih
 | uj A c size h=>exact .uj A c size h
 | slice b off n c size els val h1 h2 h3 h4 h5 _ ih=>exact .slice b off n c size els val h1 h2 h3 h4 (fun k hk=>hc _ _ _ (h5 k hk)) ih
 | fn f=>exact .fn f
 | wm=>exact .wm
 | Iy=>exact .Iy
 | map b es ks vs h1 h2 h3 _ _ ih1 ih2=>exact .map b es ks vs (hm _ _ h1) h2 h3 ih1 ih2
 | qA=>exact .qA
 | iface t v d _ ih=>exact .iface t v d ih
 | C6=>exact .C6
 | bn vs ds h1 _ ih=>exact .bn vs ds h1 ih
 | aR f vs ds h1 _ ih=>exact .aR f vs ds h1 ih
 | box b d val h1 h2 _ ih=>exact .box b d val h1 (fun k hk=>hc _ _ _ (h2 k hk)) ih
theorem Rd.mono {I J:aC} (h:I.le J) {v:Value} {d:D} (r:Rd I v d):Rd J v d:=r.Fu h.cell h.mp
theorem Rd.one {I:aC} {v:Value} {d:D} (h:Rd I v d) (hd:d.one=true):v.oneCell'=true:=by
 cases h<;>simp_all [D.one,Value.oneCell']
theorem Rd.cells {I:aC} {v:Value} {d:D} (h:Rd I v d) (ht:∀ ds,d ≠ .bn ds):v.cells.size=d.cells.length∧(∀ x∈d.cells,x.one=true)∧∀ (i:Nat) x y,v.cells[i]?=some x→d.cells[i]?=some y→Rd I x y:=by
 cases h with
 | agg cs ds h1 h2 h3=>exact⟨h1,h2,h3⟩
 | bn vs ds h1 h2=>exact absurd rfl (ht ds)
 | _=>
  refine⟨by simp[Value.cells,D.cells],by simp[D.cells,D.one],fun i x y hx hy=>?_⟩
  simp only[Value.cells,D.cells] at hx hy
  rcases i with _ | i
  ·simp at hx hy
   subst hx;subst hy
   constructor<;>assumption
  simp at hx
inductive T where
 | undef
 | d (x:D)
 | ao (size:Nat)
 | ptr (id off:Nat)
 | fy (size:Nat) (els:List D) (k off:Nat)
 | row (id:Nat)
 | dH (id k off:Nat)
 | map (id:Nat)
 | bn (ts:List T)
 | cond (pc:List (Nat×Bool×Bool)) (t:T)
 | aR (f:FuncId) (ts:List T)
 | cE (id:Nat)
 | agg (ts:List T)
 | sub (id lo hi:Nat)
 | fQ (id:Nat) (x:D)
 deriving Inhabited
abbrev Tm:=List (Nat×T)
def get:Tm→Nat→T
 | [],_=> .undef
 | (i,t)::r,k=>if i=k then t else get r k
def bq (s:Tm) (dst:Option Nat) (t:T):Tm:=match dst with | some d=>(d,t)::s | none=>s
inductive AO where
 | dead
 | var (ty:TypeId) (cs:List T)
 | row (e size:Nat) (els:List D)
 | cF (e size:Nat) (els:List D)
 | map (ks vs:List D)
 | oR (ks vs:List D)
 | iter (ks vs:List D) (done:List Nat)
 | frame (base:Nat) (vals:Nat→Value) (t:Tm)
 | loop (base n:Nat) (ps:Array Tmp) (cQ body:Code) (t:Tm) (st:LoopState) (ed:Option Code)
 deriving Inhabited
def AO.isVar:AO→Bool | .var .. =>true | .iter .. =>true | .frame .. =>true | .loop .. =>true | _=>false
def AO.isRow:AO→Bool | .row .. =>true | .cF .. =>true | .map .. =>true | .oR .. =>true | _=>false
def isVar (l:List AO) (id:Nat):Bool:=((l[id]?).map AO.isVar).getD false
def isRow (l:List AO) (id:Nat):Bool:=((l[id]?).map AO.isRow).getD false
def holds:List (Nat×Bool×Bool)→Prop
 | []=>True
 | (_,c,b)::r=>c=b∧holds r
inductive aw (I:aC) (m:Nat→Value) (l:List AO):Value→T→Prop
 | undef (v):aw I m l v .undef
 | d (v x):Rd I v x→aw I m l v (.d x)
 | ao (size):aw I m l (.slice none 0 0) (.ao size)
 | ptr (id b off):isVar l id=true→m id = .pointer (some ⟨b,0,none⟩)→aw I m l (.pointer (some ⟨b,off,none⟩)) (.ptr id off)
 | fy (b o size els k off) (val:Nat→Value):k < els.length→(∀ d∈els,d.cells.length=size∧∀ x∈d.cells,x.one=true) →
   (∀ j,j < els.length*size→I.cell b (o+j)=some (val j))→(∀ (j:Nat) x,(flat els)[j]?=some x→Rd I (val j) x)→aw I m l (.pointer (some ⟨b,o+k*size+off,none⟩)) (.fy size els k off)
 | row (A:Option Addr) (n c id:Nat):id < l.length→(isRow l id=true→m id = .slice A n c)→aw I m l (.slice A n c) (.row id)
 | dH (a:Addr) (id k off):id < l.length→(∀ e size els,(l[id]?=some (.row e size els)∨l[id]?=some (.cF e size els))→∃ b n c,m id = .slice (some ⟨b,0,none⟩) n c∧a=⟨b,k*size+off,none⟩)→aw I m l (.pointer (some a)) (.dH id k off)
 | map (r:Option Nat) (id:Nat):id < l.length→(isRow l id=true→m id = .map r)→aw I m l (.map r) (.map id)
 | bn (vs:Array Value) (ts:List T):vs.size=ts.length→(∀ (i:Nat) v t,vs[i]?=some v→ts[i]?=some t→aw I m l v t)→aw I m l (.tuple vs) (.bn ts)
 | cond (v pc t):(holds pc→aw I m l v t)→(¬ holds pc→v=Go.undef)→aw I m l v (.cond pc t)
 | aR (g) (vs:Array Value) (ts:List T):vs.size=ts.length→(∀ (i:Nat) v t,vs[i]?=some v→ts[i]?=some t→aw I m l v t)→aw I m l (.func (.func g) #[] vs) (.aR g ts)
 | cE (id b):isVar l id=true→m id = .func (.yield b) #[] #[]→aw I m l (.func (.yield b) #[] #[]) (.cE id)
 | sub (A:Option Addr) (n c id lo hi:Nat):id < l.length→(∀ e size els,(l[id]?=some (.row e size els)∨l[id]?=some (.cF e size els))→∃ A0 n0 c0,m id = .slice A0 n0 c0∧lo≤hi∧hi≤n0∧Value.slice A n c=sliced A0 lo hi c0 size)→aw I m l (.slice A n c) (.sub id lo hi)
 | fQ (A:Option Addr) (n c id:Nat) (x:D):id < l.length→(isRow l id=true→m id = .slice A n c)→Rd I (.slice A n c) x→aw I m l (.slice A n c) (.fQ id x)
 | agg (vs:Array Value) (ts:List T):vs.size=ts.length→(∀ (i:Nat) v,vs[i]?=some v→v.oneCell'=true)→(∀ (i:Nat) v t,vs[i]?=some v→ts[i]?=some t→aw I m l v t)→aw I m l (.agg vs) (.agg ts)
structure Le (I:aC) (m:Nat→Value) (l:List AO) (J:aC) (m':Nat→Value) (l':List AO):Prop where
 eR:I.le J
 len:l.length≤l'.length
 var:∀ id,id < l.length→isVar l id=true→isVar l' id=true∧m' id=m id
 row:∀ id,id < l.length→isRow l' id=true→isRow l id=true∧m' id=m id
 rows:∀ id e size els,id < l.length→(l'[id]?=some (.row e size els)∨l'[id]?=some (.cF e size els))→∃ els',(l[id]?=some (.row e size els')∨l[id]?=some (.cF e size els'))
theorem Le.refl (I:aC) (m:Nat→Value) (l:List AO):Le I m l I m l:=⟨.refl I,Nat.le_refl _,fun _ _ h=>⟨h,rfl⟩,fun _ _ h=>⟨h,rfl⟩,fun _ _ _ els _ h=>⟨els,h⟩⟩
theorem Le.trans {I J K:aC} {m m' m'':Nat→Value} {l l' uc:List AO} (h:Le I m l J m' l') (k:Le J m' l' K m'' uc):Le I m l K m'' uc where
 eR:=h.eR.trans k.eR
 len:=Nat.le_trans h.len k.len
 var id aB hv:=by
  obtain⟨h1,h2⟩:=h.var id aB hv
  obtain⟨k1,k2⟩:=k.var id (Nat.lt_of_lt_of_le aB h.len) h1
  exact⟨k1,k2.trans h2⟩
 row id aB hv:=by
  obtain⟨k1,k2⟩:=k.row id (Nat.lt_of_lt_of_le aB h.len) hv
  obtain⟨h1,h2⟩:=h.row id aB k1
  exact⟨h1,k2.trans h2⟩
 rows id e size els aB hv:=by
  obtain⟨els',h'⟩:=k.rows id e size els (Nat.lt_of_lt_of_le aB h.len) hv
  exact h.rows id e size els' aB h'
theorem YU {l:List AO} {base id:Nat} (h:id < base):isVar (l.take base) id=isVar l id:=by unfold isVar;rw[List.getElem?_take,if_pos h]
theorem RM {l:List AO} {base id:Nat} (h:id < base):isRow (l.take base) id=isRow l id:=by unfold isRow;rw[List.getElem?_take,if_pos h]
theorem Le.take {I J:aC} {m m':Nat→Value} {l l':List AO} (h:Le I m l J m' l') (base:Nat):Le I m (l.take base) J m' (l'.take base) where
 eR:=h.eR
 len:=by have:=h.len;rw[List.length_take,List.length_take];omega
 var id aB hv:=by
  rw[List.length_take] at aB
  rw[YU (by omega)] at hv ⊢
  exact h.var id (by omega) hv
 row id aB hv:=by
  rw[List.length_take] at aB
  rw[RM (by omega)] at hv ⊢
  exact h.row id (by omega) hv
 rows id e size els aB hv:=by
  rw[List.length_take] at aB
  rw[List.getElem?_take,if_pos (by omega)] at hv ⊢
  exact h.rows id e size els (by omega) hv
theorem Le.adg (I:aC) (m:Nat→Value) (l:List AO) (base:Nat):Le I m (l.take base) I m l where
 eR:= .refl I
 len:=by rw[List.length_take];omega
 var id aB hv:=by
  rw[List.length_take] at aB
  rw[YU (by omega)] at hv
  exact⟨hv,rfl⟩
 row id aB hv:=by
  rw[List.length_take] at aB
  rw[RM (by omega)]
  exact⟨hv,rfl⟩
 rows id e size els aB hv:=by
  rw[List.length_take] at aB
  refine⟨els,?_⟩
  rw[List.getElem?_take,if_pos (by omega)];exact hv
theorem YT {l:List AO} {id:Nat} (h:isVar l id=true):id < l.length:=by
 unfold isVar at h
 rcases Nat.lt_or_ge id l.length with h' | h'
 ·exact h'
 rw[List.getElem?_eq_none h'] at h;simp at h
theorem aw.mono {I J:aC} {m m':Nat→Value} {l l':List AO} (h:Le I m l J m' l') {v:Value} {t:T} (r:aw I m l v t):aw J m' l' v t:=by
 induction r with
 | undef v=>exact .undef v
 | d v x r=>exact .d v x (r.mono h.eR)
 | ao s=>exact .ao s
 | ptr id b off h1 h2=>
  obtain⟨k1,k2⟩:=h.var id (YT h1) h1
  exact .ptr id b off k1 (k2.trans h2)
 | fy b o size els k off val h1 h2 h3 h4=>exact .fy b o size els k off val h1 h2 (fun j hj=>h.eR.cell _ _ _ (h3 j hj)) (fun j x hx=>(h4 j x hx).mono h.eR)
 | row A n c id h1 h2=>
  refine .row A n c id (Nat.lt_of_lt_of_le h1 h.len) fun hl=>?_
  obtain⟨k1,k2⟩:=h.row id h1 hl
  exact k2.trans (h2 k1)
 | dH a id k off h1 h2=>
  refine .dH a id k off (Nat.lt_of_lt_of_le h1 h.len) fun e size els hl=>?_
  obtain⟨els',h'⟩:=h.rows id e size els h1 hl
  obtain⟨b,n,c,q1,q2⟩:=h2 e size els' h'
  have:isRow l' id=true:=by unfold isRow;rcases hl with hl | hl<;>simp[hl,AO.isRow]
  exact⟨b,n,c,(h.row id h1 this).2.trans q1,q2⟩
 | sub A n c id lo hi h1 h2=>
  refine .sub A n c id lo hi (Nat.lt_of_lt_of_le h1 h.len) fun e size els hl=>?_
  obtain⟨els',h'⟩:=h.rows id e size els h1 hl
  obtain⟨A0,n0,c0,q1,q2⟩:=h2 e size els' h'
  have:isRow l' id=true:=by unfold isRow;rcases hl with hl | hl<;>simp[hl,AO.isRow]
  exact⟨A0,n0,c0,(h.row id h1 this).2.trans q1,q2⟩
 | fQ A n c id x h1 h2 h3=>
  refine .fQ A n c id x (Nat.lt_of_lt_of_le h1 h.len) (fun hl=>?_) (h3.mono h.eR)
  obtain⟨k1,k2⟩:=h.row id h1 hl
  exact k2.trans (h2 k1)
 | map r id h1 h2=>
  refine .map r id (Nat.lt_of_lt_of_le h1 h.len) fun hl=>?_
  obtain⟨k1,k2⟩:=h.row id h1 hl
  exact k2.trans (h2 k1)
 | bn vs ts h1 _ ih=>exact .bn vs ts h1 ih
 | cond v pc t _ hn ih=>exact .cond v pc t ih hn
 | aR g vs ts h1 _ ih=>exact .aR g vs ts h1 ih
 | cE id b h1 h2=>
  obtain⟨k1,k2⟩:=h.var id (YT h1) h1
  exact .cE id b k1 (k2.trans h2)
 | agg vs ts h1 h2 _ ih=>exact .agg vs ts h1 h2 ih
def own:Value→Option Nat
 | .pointer (some a)=>some a.block
 | .slice (some a) _ _=>some a.block
 | .map (some b)=>some b
 | .func (.yield b) _ _=>some b
 | _=>none
def aC.gp (I:aC) (b:Nat):Prop:=(∀ o,I.cell b o=none)∧I.mp b=none
def iT (o:Option Obj) (es:ME):Prop:=o=some (.map es.1 es.2)∧MapKept.Stamped es.1 es.2
theorem iT.to {o o':Option Obj} {es:ME} (h:o'=o) (k:iT o es):iT o' es:=⟨h.trans k.1,k.2⟩
def JX (es:ME) (i:Nat):Nat:=((es.1[i]?).map (·.born)).getD 0
def rI (B:Nat) (w:World) (I:aC) (m:Nat→Value) (l:List AO) (v:Value):AO→Prop
 | .dead=>True
 | .var ty cs=>∃ b vs,v = .pointer (some ⟨b,0,none⟩)∧B≤b∧w.heap[b]?=some (.cells vs ty (0,0))∧vs.size=cs.length∧(∀ (i:Nat) x t,vs[i]?=some x→cs[i]?=some t→aw I m l x t∧x.oneCell'=true)∧I.gp b
 | .row e size els=>∃ xs,w.ownsRow B e size v els.length xs∧(∀ d∈els,d.cells.length=size∧∀ x∈d.cells,x.one=true)∧(∀ (j:Nat) x y,xs[j]?=some x→(flat els)[j]?=some y→Rd I x y)∧(∀ b,own v=some b→I.gp b)
 | .cF e size els=>∃ xs,w.ownsRow B e size v els.length xs∧(∀ d∈els,d.cells.length=size∧∀ x∈d.cells,x.one=true)∧(∀ (j:Nat) x y,xs[j]?=some x→(flat els)[j]?=some y→Rd I x y)∧(∀ b,own v=some b→I.mp b=none∧(∀ (j:Nat) x,xs[j]?=some x→I.cell b j=some x)∧∀ j,xs.length≤j→I.cell b j=none)
 | .map ks vs=>∃ b es,v = .map (some b)∧B≤b∧iT w.heap[b]? es∧es.1.size=ks.length∧es.1.size=vs.length∧(∀ (i:Nat) (e:MapEntry) (d:D),es.1[i]?=some e→ks[i]?=some d→Rd I e.key d)∧(∀ (i:Nat) (e:MapEntry) (d:D),es.1[i]?=some e→vs[i]?=some d→Rd I e.val d)∧I.gp b
 | .oR ks vs=>∃ b es,v = .map (some b)∧B≤b∧iT w.heap[b]? es∧es.1.size=ks.length∧es.1.size=vs.length∧(∀ (i:Nat) (e:MapEntry) (d:D),es.1[i]?=some e→ks[i]?=some d→Rd I e.key d)∧(∀ (i:Nat) (e:MapEntry) (d:D),es.1[i]?=some e→vs[i]?=some d→Rd I e.val d)∧(∀ o,I.cell b o=none)∧I.mp b=some es
 | .iter ks vs done=>∃ b mb es seen,v = .pointer (some ⟨b,0,none⟩)∧B≤b∧w.heap[b]?=some (.mapIter mb es.2 seen es.2)∧((∀ r,mb=some r→I.mp r=some es)∧(mb=none→es.1 = #[]))∧es.1.size=ks.length∧es.1.size=vs.length∧(∀ (i:Nat) (e:MapEntry) (d:D),es.1[i]?=some e→ks[i]?=some d→Rd I e.key d)∧(∀ (i:Nat) (e:MapEntry) (d:D),es.1[i]?=some e→vs[i]?=some d→Rd I e.val d)∧(seen.toList=done.map (JX es)∧∀ i∈done,i < es.1.size)∧I.gp b
 | .frame base vals t=>own v=none∧base≤l.length∧∀ k,aw I m (l.take base) (vals k) (get t k)
 | .loop base n ps cQ body t st ed=>∃ b r,v = .func (.yield b) #[] #[]∧B≤b∧w.heap[b]?=some (.loop r)∧(r.state=st∧r.pending=ed∧r.params=ps∧r.assign=cQ∧r.body=body∧r.tmps.size=n)∧base≤l.length∧(∀ k,aw I m (l.take base) (r.tmps.getD k undef) (get t k))∧I.gp b
class ck where
 on:Prop
 uK:Nat→Option D:=fun _=>none
variable [ck]
structure eD (w:World) (I:aC):Prop where
 cell:∀ b o v,I.cell b o=some v→w.cell? ⟨b,o,none⟩=some v
 mp:∀ b es,I.mp b=some es→iT w.heap[b]? es
 df:∀ b,I.df b→w.heap[b]?=some (.deferred (some []))
 dS:∀ g d,ck.uK g=some d→Rd I (.pointer (some ⟨g,0,none⟩)) (.box d)
theorem eD.tu {w:World} {I:aC} (h:eD w I) {b:Nat} (hc:I.df b):b < w.heap.size:=(Array.getElem?_eq_some_iff.1 (h.df b hc)).1
theorem eD.yO {w:World} {I:aC} (h:eD w I) {b:Nat} {o:Obj} (ho:w.heap[b]?=some o) (hn:o ≠ .deferred (some [])):¬ I.df b:=fun hd=>by
 rw[h.df b hd] at ho;injection ho with ho;exact hn ho.symm
theorem eD.lt {w:World} {I:aC} (h:eD w I) {b o:Nat} {v:Value} (hc:I.cell b o=some v):b < w.heap.size:=World.block_lt_of_cell? w ⟨b,o,none⟩ (h.cell b o v hc)
theorem eD.wi {w:World} {I:aC} (h:eD w I) {b:Nat} {es:ME} (hc:I.mp b=some es):b < w.heap.size:=by
 have hh:=h.mp b es hc
 exact(Array.getElem?_eq_some_iff.1 hh.1).1
theorem eD.gp {w:World} {I:aC} (h:eD w I) {b:Nat} (hb:w.heap.size≤b):I.gp b:=by
 refine⟨fun o=>?_,?_⟩
 ·cases hc:I.cell b o with
  | none=>rfl
  | some v=>have:=h.lt hc;omega
 cases hc:I.mp b with
 | none=>rfl
 | some v=>have:=h.wi hc;omega
structure jn (B:Nat) (I J:aC):Prop where
 lc:∀ b o v,I.cell b o=some v→J.cell b o=some v
 lm:∀ b es,I.mp b=some es→J.mp b=some es
 ld:∀ b,b < B→I.df b→J.df b
 cell:∀ b,b < B→J.cell b=I.cell b
 mp:∀ b,b < B→J.mp b=I.mp b
theorem jn.of {B:Nat} {I J:aC} (h:I.le J) (hc:∀ b,b < B→J.cell b=I.cell b) (hm:∀ b,b < B→J.mp b=I.mp b):jn B I J:=⟨h.cell,h.mp,fun b _=>h.df b,hc,hm⟩
theorem jn.le {B:Nat} {I J:aC} (h:jn B I J) (hb:∀ b,I.df b→b < B):I.le J:=⟨h.lc,h.lm,fun b hd=>h.ld b (hb b hd) hd⟩
theorem jn.refl (B:Nat) (I:aC):jn B I I:= .of (.refl I) (fun _ _=>rfl) (fun _ _=>rfl)
theorem jn.trans {B B':Nat} {I J K:aC} (h:jn B I J) (k:jn B' J K) (hB:B≤B'):jn B I K:=
 ⟨fun _ _ _ x=>k.lc _ _ _ (h.lc _ _ _ x),fun _ _ x=>k.lm _ _ (h.lm _ _ x),fun b hb x=>k.ld b (by omega) (h.ld b hb x),fun b hb=>(k.cell b (by omega)).trans (h.cell b hb),fun b hb=>(k.mp b (by omega)).trans (h.mp b hb)⟩
def alive (l:List AO) (id:Nat):Bool:=isVar l id||isRow l id
structure eL (B:Nat) (w w':World):Prop where
 os:w'.os=w.os
 tape:w'.tape=w.tape
 output:w'.output=w.output
 size:w.heap.size≤w'.heap.size
 block:∀ k,k < B→w'.heap[k]?=w.heap[k]?
 drawn:ck.on→w.drawn≤w'.drawn
theorem eL.refl (B:Nat) (w:World):eL B w w:=⟨rfl,rfl,rfl,Nat.le_refl _,fun _ _=>rfl,fun _=>Nat.le_refl _⟩
theorem eL.below {B:Nat} {w w':World} (h:eL B w w'):Below B w w':=⟨h.os,h.tape,h.output,h.size,h.block⟩
theorem eL.of {B:Nat} {w w':World} (h:Below B w w') (hd:ck.on→w.drawn≤w'.drawn):eL B w w':=⟨h.os,h.tape,h.output,h.size,h.block,hd⟩
theorem eL.trans {B:Nat} {a b c:World} (h:eL B a b) (k:eL B b c):eL B a c:= .of (h.below.trans k.below) fun o=>Nat.le_trans (h.drawn o) (k.drawn o)
theorem eL.mono {B B':Nat} {w w':World} (h:eL B w w') (hB:B'≤B):eL B' w w':= .of (h.below.mono hB) h.drawn
theorem eL.alloc {B:Nat} {w w':World} (h:eL B w w') (hB:B≤w'.heap.size) (o:Obj):eL B w (w'.alloc o):= .of (h.below.alloc hB o) h.drawn
theorem eL.drew {B:Nat} {w w':World} (h:eL B w w'):eL B w w'.drew:= .of h.below.drew fun o=>Nat.le_trans (h.drawn o) (Nat.le_succ _)
structure aI (w0:World) (I0:aC) (w:World) (I:aC) (m:Nat→Value) (l:List AO):Prop where
 below:eL w0.heap.size w0 w
 sat:eD w I
 ext:jn w0.heap.size I0 I
 obj:∀ id o,l[id]?=some o→rI w0.heap.size w I m l (m id) o
 sep:∀ i j b,i≠j→alive l i=true→alive l j=true→own (m i)=some b→own (m j)≠some b
end Go.an
namespace Go.an
open Go Go.RowKit
theorem UZ {α:Type}:∀ (x:Ask α) (w:World),w.drawn≤(w.ask x).2.drawn
 | .done a,w=>Nat.le_refl _
 | .ask aEA range k,w=>by
  simp only[World.ask]
  split
  ·exact UZ _ w
  exact Nat.le_trans (Nat.le_succ _) (UZ (k _) { w with drawn:=w.drawn+1 })
theorem aAe (w:World) (c:Sys):w.drawn≤(w.sys c).2.drawn:=by
 unfold World.sys
 have h:=UZ (Kernel.perform c w.os) w
 split
 ·exact Nat.le_refl _
 rename_i r os w' ba he
 rw[he] at h;exact h
theorem aAD {p:Program} {w w':World} {at_:Addr} {u:TypeId} {k:Addr} {v:Value} {atomic:Bool} {l:List Addr} (h:w.viewStore p at_ u k v atomic = .ok (w',l)):w'.drawn=w.drawn:=by
 unfold World.viewStore at h
 simp only[bind,Except.bind,pure,Except.pure,throw,throwThe,MonadExceptOf.throw] at h
 repeat' split at h
 all_goals first | cases h;done | skip
 all_goals (injection h with h;injection h with h _;subst h;rfl)
theorem aoG {p:Program} {w w':World} {a:Addr} {v:Value} {atomic:Bool} {l:List Addr} (h:w.farStore p a v atomic = .ok (w',l)):w'.drawn=w.drawn:=by
 unfold World.farStore at h
 split at h
 ·split at h
  ·rename_i r hr
   injection h with h;subst h;exact aAD hr
  cases h
 cases h
theorem qD {α:Type} (p:Program):∀ (s:Sem α) (w:World) (a:α) (w':World),s.run p w = .ok a w'→w.drawn≤w'.drawn
 | .pure a,w,b,w',h=>by simp only[Sem.run] at h;cases h;exact Nat.le_refl _
 | .load m a k,w,b,w',h=>by
  simp only[Sem.run] at h
  split at h
  ·exact qD p _ w b w' h
  split at h
  ·exact qD p _ w b w' h
  cases h
 | .store m a v k,w,b,w',h=>by
  have key:∀ u:Value,(match w.cell? a with
    | some _=>if w.frozen? a then Result.halt (.unsupported (.unsafePointer "a write to bytes that a string shares")) w else k.run p (w.setCell a u)
    | none=>match w.farStore p a u (m == .atomic) with
     | .ok (w,_)=>k.run p w
     | .error h=> .halt h w)=Result.ok b w'→w.drawn≤w'.drawn:=by
   intro u h
   split at h
   ·split at h
    ·cases h
    have:=qD p k _ b w' h;exact this
   split at h
   ·rename_i w2 l hf
    have:=qD p k _ b w' h
    rw[aoG hf] at this;exact this
   cases h
  cases v<;>simp only[Sem.run] at h<;>first | exact key _ h | cases h
 | .new o k,w,b,w',h=>by simp only[Sem.run] at h;have:=qD p _ _ b w' h;exact this
 | .shape r k,w,b,w',h=>by simp only[Sem.run] at h;exact qD p _ _ b w' h
 | .freeze a n k,w,b,w',h=>by
  simp only[Sem.run] at h
  have:=qD p _ _ b w' h
  unfold World.freeze at this
  split at this<;>exact this
 | .frozen a k,w,b,w',h=>by simp only[Sem.run] at h;exact qD p _ _ b w' h
 | .getObj r k,w,b,w',h=>by
  simp only[Sem.run] at h
  split at h
  ·cases h
  ·exact qD p _ _ b w' h
  cases h
 | .setObj r o k,w,b,w',h=>by
  simp only[Sem.run] at h
  split at h
  ·cases h
  ·have:=qD p _ _ b w' h;exact this
  cases h
 | .choose q k,w,b,w',h=>by
  simp only[Sem.run] at h
  split at h
  ·exact qD p _ _ b w' h
  exact Nat.le_trans (Nat.le_succ _) (qD p _ _ b w' h)
 | .sys c k,w,b,w',h=>by simp only[Sem.run] at h;exact Nat.le_trans (aAe w c) (qD p _ _ b w' h)
 | .program k,w,b,w',h=>by simp only[Sem.run] at h;exact qD p _ _ b w' h
 | .mark m k,w,b,w',h=>by simp only[Sem.run] at h;exact qD p _ _ b w' h
 | .halt x,w,b,w',h=>by simp only[Sem.run] at h;cases h
theorem ak4 (s:ByteArray):∀ (bound i:Nat) (acc:Array Value),(∀ x∈acc.toList,∃ n,x = .int .i32 n)→∀ x∈(Conv.runesFrom s bound i acc).toList,∃ n,x = .int .i32 n
 | 0,_,acc,h=>h
 | bound+1,i,acc,h=>by
  unfold Conv.runesFrom
  split
  ·refine ak4 s bound _ _ fun x hx=>?_
   simp at hx
   rcases hx with hx | rfl
   ·exact h x (by simpa using hx)
   exact⟨_,rfl⟩
  exact h
end Go.an
