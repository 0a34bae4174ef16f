import Derived.WalkKit
import Derived.WalkSpells
import Derived.WalkLawsBesides
import Derived.Maps.AppendAt
import Derived.Deep.AppendLies
import Derived.Deep.MidRow
import Derived.Deep.Quiet
import Derived.Great.BuildSlice
import Derived.OrdersIn
import Derived.TacticsIn
import Derived.RangeFuncCalls
import Derived.Sort.LoopGhostIn
set_option linter.all false
namespace Go.af
open Go Go.RowKit
inductive D where
 |bool (b:Bool)
 |int (k:IntKind) (n:Int)
 |str (s:ByteArray)
 |agg (cs:List D)
 |slice (size:Nat) (els:List D)
 |fn (f:FuncId)
 |eV
 |map (ks vs:List D)
 |ch
 |iface (t:TypeId) (d:D)
 |fH
 |aw (ds:List D)
 |ar (f:FuncId) (bJ:List D)
 |box (d:D)
 |self (f:FuncId)
 |addr (a:Addr)
 |aa (f:FuncId) (d:D)
 deriving Inhabited
def D.cells:D→List D
 |.agg cs=>cs
 |d=>[d]
def D.one:D→Bool
 |.agg _=>false
 |.aw _=>false
 |_=>true
def flat(els:List D):List D:=els.flatMap D.cells
abbrev ME:=Array MapEntry×Nat
structure aq where
 cell:Nat→Nat→Option Value
 mp:Nat→Option ME
 df:Nat→Prop
structure aq.le(I J:aq):Prop where
 cell:∀b o v,I.cell b o=some v→J.cell b o=some v
 mp:∀b es,I.mp b=some es→J.mp b=some es
 df:∀b,I.df b→J.df b
theorem aq.le.refl(I:aq):I.le I:=⟨λ_ _ _ h=>h,λ_ _ h=>h,λ_ h=>h⟩
theorem aq.le.trans{I J K:aq}(h:I.le J)(k:J.le K):I.le K:=⟨λ_ _ _ x=>k.cell _ _ _ (h.cell _ _ _ x),λ_ _ x=>k.mp _ _ (h.mp _ _ x),λ_ x=>k.df _ (h.df _ x)⟩
inductive Rd(I:aq):Value→D→Prop
 |bool (b):Rd I (.bool b) (.bool b)
 |int (k n):Rd I (.int k n) (.int k n)
 |str (s):Rd I (.string s) (.str s)
 |agg (cs:Array Value) (ds:List D):cs.size=ds.length→(∀d∈ds,d.one=true)→(∀(i:Nat) v d,cs[i]?=some v→ds[i]?=some d→Rd I v d)→Rd I (.agg cs) (.agg ds)
 |iz (A c size):c≤maxLen→Rd I (.slice A 0 c) (.slice size [])
 |slice (b off n c size:Nat) (els:List D) (val:Nat→Value):els.length=n→n≤c→c≤maxLen→(∀d∈els,d.cells.length=size∧∀x∈d.cells,x.one=true) →
   (∀k,k<n*size→I.cell b (off+k)=some (val k))→(∀(k:Nat) x,(flat els)[k]?=some x→Rd I (val k) x)→Rd I (.slice (some ⟨b,off,none⟩) n c) (.slice size els)
 |fn (f):Rd I (.func (.func f) #[] #[]) (.fn f)
 |eV:Rd I .nilFunc .eV
 |oX:Rd I (.map none) (.map [] [])
 |map (b:Nat) (es:ME) (ks vs:List D):I.mp b=some es→es.1.size=ks.length→es.1.size=vs.length→(∀(i:Nat)(e:MapEntry)(d:D),es.1[i]?=some e→ks[i]?=some d→Rd I e.key d)→(∀(i:Nat)(e:MapEntry)(d:D),es.1[i]?=some e→vs[i]?=some d→Rd I e.val d)→Rd I (.map (some b)) (.map ks vs)
 |ch:Rd I (.pointer none) .ch
 |iface (t v d):Rd I v d→Rd I (.iface t v) (.iface t d)
 |fH:Rd I .nilIface .fH
 |aw (vs:Array Value) (ds:List D):vs.size=ds.length→(∀(i:Nat) v d,vs[i]?=some v→ds[i]?=some d→Rd I v d)→Rd I (.tuple vs) (.aw ds)
 |ar (f) (vs:Array Value) (ds:List D):vs.size=ds.length→(∀(i:Nat) v d,vs[i]?=some v→ds[i]?=some d→Rd I v d)→Rd I (.func (.func f) #[] vs) (.ar f ds)
 |box (b:Nat) (d:D) (val:Nat→Value):(∀x∈d.cells,x.one=true)→(∀k,k<d.cells.length→I.cell b k=some (val k))→(∀(k:Nat) x,d.cells[k]?=some x→Rd I (val k) x)→Rd I (.pointer (some ⟨b,0,none⟩)) (.box d)
 |addr (a):Rd I (.pointer (some a)) (.addr a)
 |aa (f) (u:Value) (d:D):Rd I u d→Rd I (.func (.func f) #[u] #[]) (.aa f d)
 |self (b:Nat) (f):I.cell b 0=some (.func (.func f) #[] #[.pointer (some ⟨b,0,none⟩)])→Rd I (.pointer (some ⟨b,0,none⟩)) (.self f)
theorem Rd.l8{I J:aq}(O:∀b o v,I.cell b o=some v→J.cell b o=some v)(ab:∀b G,I.mp b=some G→J.mp b=some G){v:Value}{d:D}(r:Rd I v d):Rd J v d:=by
 induction r with
 |bool b=>exact .bool b
 |int k n=>exact .int k n
 |str s=>exact .str s
 |agg cs ds B F _ j=>exact .agg cs ds B F j
 |iz A c size h=>exact .iz A c size h
 |slice b off n c size els val B F M Y Z _ j=>exact .slice b off n c size els val B F M Y (λk U=>O _ _ _ (Z k U)) j
 |fn f=>exact .fn f
 |eV=>exact .eV
 |oX=>exact .oX
 |map b G ks vs B F M _ _ ad ae=>exact .map b G ks vs (ab _ _ B) F M ad ae
 |ch=>exact .ch
 |iface t v d _ j=>exact .iface t v d j
 |fH=>exact .fH
 |aw vs ds B _ j=>exact .aw vs ds B j
 |ar f vs ds B _ j=>exact .ar f vs ds B j
 |box b d val B F _ j=>exact .box b d val B (λk U=>O _ _ _ (F k U)) j
 |addr a=>exact .addr a
 |aa f u d _ j=>exact .aa f u d j
 |self b f h=>exact .self b f (O _ _ _ h)
theorem Rd.mono{I J:aq}(h:I.le J){v:Value}{d:D}(r:Rd I v d):Rd J v d:=r.l8 h.cell h.mp
theorem Rd.one{I:aq}{v:Value}{d:D}(h:Rd I v d)(j:d.one=true):v.oneCell'=true:=by
 cases h<;>simp_all [D.one,Value.oneCell']
theorem Rd.cells{I:aq}{v:Value}{d:D}(h:Rd I v d)(M:∀ds,d ≠ .aw ds):v.cells.size=d.cells.length∧(∀x∈d.cells,x.one=true)∧∀(i:Nat) x y,v.cells[i]?=some x→d.cells[i]?=some y→Rd I x y:=by
 cases h with
 |agg cs ds B F G=>exact⟨B,F,G⟩
 |aw vs ds B F=>exact absurd rfl (M ds)
 |_=>
  refine⟨by simp[Value.cells,D.cells],by simp[D.cells,D.one],λi x y j k=>?_⟩
  simp only[Value.cells,D.cells]at j k
  rcases i with _|i
  ·simp at j k
   subst j;subst k
   constructor<;>assumption
  simp at j
inductive T where
 |undef
 |d (x:D)
 |aX (size:Nat)
 |ptr (id off:Nat)
 |aS (size:Nat) (els:List D) (k off:Nat)
 |row (id:Nat)
 |aO (id k off:Nat)
 |map (id:Nat)
 |aw (ts:List T)
 |cond (pc:List (Nat×Bool×Bool)) (t:T)
 |ar (f:FuncId) (ts:List T)
 |aK (id:Nat)
 |agg (ts:List T)
 |sub (id lo hi:Nat)
 |aQ (id:Nat) (x:D)
 |bj (id n:Nat)
 deriving Inhabited
abbrev Tm:=List (Nat×T)
def get:Tm→Nat→T
 | [],_=>.undef
 | (i,t)::r,k=>if i=k then t else get r k
def ei(s:Tm)(j:Option Nat)(t:T):Tm:=match j with|some d=>(d,t)::s|none=>s
inductive AO where
 |dead
 |var (ty:TypeId) (cs:List T)
 |row (e size:Nat) (els:List D)
 |aM (e size:Nat) (els:List D)
 |map (ks vs:List D)
 |cU (ks vs:List D)
 |iter (ks vs:List D) (done:List Nat)
 |aU (e size:Nat) (ks vs:List D) (op:Option Nat)
 |bD (ks:List D) (ts:List T)
 |frame (base:Nat) (vals:Nat→Value) (t:Tm)
 |loop (base n:Nat) (ps:Array Tmp) (aP body:Code) (t:Tm) (st:LoopState) (cP:Option Code)
 deriving Inhabited
def AO.isVar:AO→Bool |.var .. =>true |.iter .. =>true |.frame .. =>true |.loop .. =>true|_=>false
def AO.isRow:AO→Bool |.row .. =>true |.aM .. =>true |.map .. =>true |.cU .. =>true |.aU .. =>true |.bD .. =>true|_=>false
def AO.oS:AO→Bool |.aU .. =>true|_=>false
def AO.bO:AO→Bool |.aM .. =>true|_=>false
def isVar(l:List AO)(id:Nat):Bool:=((l[id]?).map AO.isVar).getD false
def isRow(l:List AO)(id:Nat):Bool:=((l[id]?).map AO.isRow).getD false
def bO(l:List AO)(id:Nat):Bool:=((l[id]?).map AO.bO).getD false
def holds:List (Nat×Bool×Bool)→Prop
 | []=>True
 | (_,c,b)::r=>c=b∧holds r
inductive ah(I:aq)(m:Nat→Value)(l:List AO):Value→T→Prop
 |undef (v):ah I m l v .undef
 |d (v x):Rd I v x→ah I m l v (.d x)
 |aX (size):ah I m l (.slice none 0 0) (.aX size)
 |ptr (id b off):isVar l id=true→m id=.pointer (some ⟨b,0,none⟩)→ah I m l (.pointer (some ⟨b,off,none⟩)) (.ptr id off)
 |aS (b o size els k off) (val:Nat→Value):k<els.length→(∀d∈els,d.cells.length=size∧∀x∈d.cells,x.one=true) →
   (∀j,j<els.length*size→I.cell b (o+j)=some (val j))→(∀(j:Nat) x,(flat els)[j]?=some x→Rd I (val j) x)→ah I m l (.pointer (some ⟨b,o+k*size+off,none⟩)) (.aS size els k off)
 |row (A:Option Addr) (n c id:Nat):id<l.length→(isRow l id=true→m id=.slice A n c)→ah I m l (.slice A n c) (.row id)
 |aO (a:Addr) (id k off):id<l.length→(∀e size els,(l[id]?=some (.row e size els)∨l[id]?=some (.aM e size els))→∃b n c,m id=.slice (some ⟨b,0,none⟩) n c∧a=⟨b,k*size+off,none⟩)→ah I m l (.pointer (some a)) (.aO id k off)
 |map (r:Option Nat) (id:Nat):id<l.length→(isRow l id=true→m id=.map r)→ah I m l (.map r) (.map id)
 |aw (vs:Array Value) (ts:List T):vs.size=ts.length→(∀(i:Nat) v t,vs[i]?=some v→ts[i]?=some t→ah I m l v t)→ah I m l (.tuple vs) (.aw ts)
 |cond (v pc t):(holds pc→ah I m l v t)→(¬holds pc→v=Go.undef)→ah I m l v (.cond pc t)
 |ar (g) (vs:Array Value) (ts:List T):vs.size=ts.length→(∀(i:Nat) v t,vs[i]?=some v→ts[i]?=some t→ah I m l v t)→ah I m l (.func (.func g) #[] vs) (.ar g ts)
 |aK (id b):isVar l id=true→m id=.func (.yield b) #[] #[]→ah I m l (.func (.yield b) #[] #[]) (.aK id)
 |sub (A:Option Addr) (n c id lo hi:Nat):id<l.length→(∀e size els,(l[id]?=some (.row e size els)∨l[id]?=some (.aM e size els))→∃A0 n0 c0,m id=.slice A0 n0 c0∧lo≤hi∧hi≤n0∧Value.slice A n c=sliced A0 lo hi c0 size)→ah I m l (.slice A n c) (.sub id lo hi)
 |aQ (A:Option Addr) (n c id:Nat) (x:D):id<l.length→(isRow l id=true→m id=.slice A n c)→Rd I (.slice A n c) x→ah I m l (.slice A n c) (.aQ id x)
 |bj (id b n c:Nat):isVar l id=true→m id=.pointer (some ⟨b,0,none⟩)→n≤c→c≤maxLen→ah I m l (.slice (some ⟨b,0,none⟩) n c) (.bj id n)
 |agg (vs:Array Value) (ts:List T):vs.size=ts.length→(∀(i:Nat) v,vs[i]?=some v→v.oneCell'=true)→(∀(i:Nat) v t,vs[i]?=some v→ts[i]?=some t→ah I m l v t)→ah I m l (.agg vs) (.agg ts)
structure Le(I:aq)(m:Nat→Value)(l:List AO)(J:aq)(m':Nat→Value)(l':List AO):Prop where
 cB:I.le J
 len:l.length≤l'.length
 var:∀id,id<l.length→isVar l id=true→isVar l' id=true∧m' id=m id
 row:∀id,id<l.length→isRow l' id=true→isRow l id=true∧m' id=m id
 rows:∀id e size els,id<l.length→(l'[id]?=some (.row e size els)∨l'[id]?=some (.aM e size els))→∃els',(l[id]?=some (.row e size els')∨l[id]?=some (.aM e size els'))
theorem Le.refl(I:aq)(m:Nat→Value)(l:List AO):Le I m l I m l:=⟨.refl I,Nat.le_refl _,λ_ _ h=>⟨h,rfl⟩,λ_ _ h=>⟨h,rfl⟩,λ_ _ _ els _ h=>⟨els,h⟩⟩
theorem Le.trans{I J K:aq}{m m' O:Nat→Value}{l l' M:List AO}(h:Le I m l J m' l')(k:Le J m' l' K O M):Le I m l K O M where
 cB:=h.cB.trans k.cB
 len:=Nat.le_trans h.len k.len
 var id j B:=by
  obtain⟨F,G⟩:=h.var id j B
  obtain⟨k1,k2⟩:=k.var id (Nat.lt_of_lt_of_le j h.len) F
  exact⟨k1,k2.trans G⟩
 row id j B:=by
  obtain⟨k1,k2⟩:=k.row id (Nat.lt_of_lt_of_le j h.len) B
  obtain⟨F,G⟩:=h.row id j k1
  exact⟨F,k2.trans G⟩
 rows id e size els j B:=by
  obtain⟨els',U⟩:=k.rows id e size els (Nat.lt_of_lt_of_le j h.len) B
  exact h.rows id e size els' j U
theorem tE{l:List AO}{base id:Nat}(h:id<base):isVar (l.take base) id=isVar l id:=by unfold isVar;rw[List.getElem?_take,if_pos h]
theorem xx{l:List AO}{base id:Nat}(h:id<base):isRow (l.take base) id=isRow l id:=by unfold isRow;rw[List.getElem?_take,if_pos h]
theorem Le.take{I J:aq}{m m':Nat→Value}{l l':List AO}(h:Le I m l J m' l')(base:Nat):Le I m (l.take base) J m' (l'.take base) where
 cB:=h.cB
 len:=by have:=h.len;rw[List.length_take,List.length_take];omega
 var id k j:=by
  rw[List.length_take]at k
  rw[tE (by omega)]at j⊢
  exact h.var id (by omega) j
 row id k j:=by
  rw[List.length_take]at k
  rw[xx (by omega)]at j⊢
  exact h.row id (by omega) j
 rows id e size els k j:=by
  rw[List.length_take]at k
  rw[List.getElem?_take,if_pos (by omega)]at j⊢
  exact h.rows id e size els (by omega) j
theorem Le.vN(I:aq)(m:Nat→Value)(l:List AO)(base:Nat):Le I m (l.take base) I m l where
 cB:=.refl I
 len:=by rw[List.length_take];omega
 var id k j:=by
  rw[List.length_take]at k
  rw[tE (by omega)]at j
  exact⟨j,rfl⟩
 row id k j:=by
  rw[List.length_take]at k
  rw[xx (by omega)]
  exact⟨j,rfl⟩
 rows id e size els k j:=by
  rw[List.length_take]at k
  refine⟨els,?_⟩
  rw[List.getElem?_take,if_pos (by omega)];exact j
theorem tD{l:List AO}{id:Nat}(h:isVar l id=true):id<l.length:=by
 unfold isVar at h
 rcases Nat.lt_or_ge id l.length with h'|h'
 ·exact h'
 rw[List.getElem?_eq_none h']at h;simp at h
theorem ah.mono{I J:aq}{m m':Nat→Value}{l l':List AO}(h:Le I m l J m' l'){v:Value}{t:T}(r:ah I m l v t):ah J m' l' v t:=by
 induction r with
 |undef v=>exact .undef v
 |d v x r=>exact .d v x (r.mono h.cB)
 |aX s=>exact .aX s
 |ptr id b off B F=>
  obtain⟨k1,k2⟩:=h.var id (tD B) B
  exact .ptr id b off k1 (k2.trans F)
 |aS b o size els k off val B F M U=>exact .aS b o size els k off val B F (λj aa=>h.cB.cell _ _ _ (M j aa)) (λj x ad=>(U j x ad).mono h.cB)
 |row A n c id B F=>
  refine .row A n c id (Nat.lt_of_lt_of_le B h.len) λhl=>?_
  obtain⟨k1,k2⟩:=h.row id B hl
  exact k2.trans (F k1)
 |aO a id k off B F=>
  refine .aO a id k off (Nat.lt_of_lt_of_le B h.len) λe size els hl=>?_
  obtain⟨els',O⟩:=h.rows id e size els B hl
  obtain⟨b,n,c,Y,Z⟩:=F e size els' O
  have:isRow l' id=true:=by unfold isRow;rcases hl with hl|hl<;>simp[hl,AO.isRow]
  exact⟨b,n,c,(h.row id B this).2.trans Y,Z⟩
 |sub A n c id lo hi B F=>
  refine .sub A n c id lo hi (Nat.lt_of_lt_of_le B h.len) λe size els hl=>?_
  obtain⟨els',O⟩:=h.rows id e size els B hl
  obtain⟨A0,n0,c0,Y,Z⟩:=F e size els' O
  have:isRow l' id=true:=by unfold isRow;rcases hl with hl|hl<;>simp[hl,AO.isRow]
  exact⟨A0,n0,c0,(h.row id B this).2.trans Y,Z⟩
 |aQ A n c id x B F M=>
  refine .aQ A n c id x (Nat.lt_of_lt_of_le B h.len) (λhl=>?_) (M.mono h.cB)
  obtain⟨k1,k2⟩:=h.row id B hl
  exact k2.trans (F k1)
 |map r id B F=>
  refine .map r id (Nat.lt_of_lt_of_le B h.len) λhl=>?_
  obtain⟨k1,k2⟩:=h.row id B hl
  exact k2.trans (F k1)
 |aw vs ts B _ G=>exact .aw vs ts B G
 |cond v pc t _ ab G=>exact .cond v pc t G ab
 |ar g vs ts B _ G=>exact .ar g vs ts B G
 |aK id b B F=>
  obtain⟨k1,k2⟩:=h.var id (tD B) B
  exact .aK id b k1 (k2.trans F)
 |bj id b n c B F M U=>
  obtain⟨k1,k2⟩:=h.var id (tD B) B
  exact .bj id b n c k1 (k2.trans F) M U
 |agg vs ts B F _ G=>exact .agg vs ts B F G
def own:Value→Option Nat
 |.pointer (some a)=>some a.block
 |.slice (some a) _ _=>some a.block
 |.map (some b)=>some b
 |.func (.yield b) _ _=>some b
 |_=>none
def aq.cM(I:aq)(b:Nat):Prop:=(∀o,I.cell b o=none)∧I.mp b=none
def MapAt(o:Option Obj)(j:ME):Prop:=o=some (.map j.1 j.2)∧MapKept.Stamped j.1 j.2
theorem MapAt.to{o o':Option Obj}{j:ME}(h:o'=o)(k:MapAt o j):MapAt o' j:=⟨h.trans k.1,k.2⟩
def sw(j:ME)(i:Nat):Nat:=((j.1[i]?).map (·.born)).getD 0
def fY(k:Nat)(w:World)(I:aq)(v:Value)(e size:Nat)(els:List D):Prop:=
 ∃xs,w.ownsRow k e size v els.length xs∧(∀d∈els,d.cells.length=size∧∀x∈d.cells,x.one=true)∧(∀(j:Nat) x y,xs[j]?=some x→(flat els)[j]?=some y→Rd I x y)∧(∀b,own v=some b→I.mp b=none∧(∀(j:Nat) x,xs[j]?=some x→I.cell b j=some x)∧∀j,xs.length≤j→I.cell b j=none)
def sb(F:Nat)(w:World)(I:aq)(m:Nat→Value)(l:List AO)(e size:Nat)(B:ME)(vs:List D)(op:Option Nat):Prop:=
 ∃k:Nat→Nat,(∀(i:Nat)(en:MapEntry)(d:D),op≠some i→B.1[i]?=some en→vs[i]?=some d→∃els,d=.slice size els∧els≠[]∧own en.val=some (k i)∧fY F w I en.val e size els) ∧
  (∀i j,i≠j→i<B.1.size→j<B.1.size→op≠some i→op≠some j→k i≠k j)∧∀q i,bO l q=true→i<B.1.size→op≠some i→own (m q)≠some (k i)
def dh(F:Nat)(w:World)(I:aq)(m:Nat→Value)(l:List AO)(v:Value):AO→Prop
 |.dead=>True
 |.var ty cs=>∃b vs,v=.pointer (some ⟨b,0,none⟩)∧F≤b∧w.heap[b]?=some (.cells vs ty (0,0))∧vs.size=cs.length∧(∀(i:Nat) x t,vs[i]?=some x→cs[i]?=some t→ah I m l x t∧x.oneCell'=true)∧I.cM b
 |.row e size els=>∃xs,w.ownsRow F e size v els.length xs∧(∀d∈els,d.cells.length=size∧∀x∈d.cells,x.one=true)∧(∀(j:Nat) x y,xs[j]?=some x→(flat els)[j]?=some y→Rd I x y)∧(∀b,own v=some b→I.cM b)
 |.aM e size els=>∃xs,w.ownsRow F e size v els.length xs∧(∀d∈els,d.cells.length=size∧∀x∈d.cells,x.one=true)∧(∀(j:Nat) x y,xs[j]?=some x→(flat els)[j]?=some y→Rd I x y)∧(∀b,own v=some b→I.mp b=none∧(∀(j:Nat) x,xs[j]?=some x→I.cell b j=some x)∧∀j,xs.length≤j→I.cell b j=none)
 |.map ks vs=>∃b B,v=.map (some b)∧F≤b∧MapAt w.heap[b]? B∧B.1.size=ks.length∧B.1.size=vs.length∧(∀(i:Nat)(e:MapEntry)(d:D),B.1[i]?=some e→ks[i]?=some d→Rd I e.key d)∧(∀(i:Nat)(e:MapEntry)(d:D),B.1[i]?=some e→vs[i]?=some d→Rd I e.val d)∧I.cM b
 |.cU ks vs=>∃b B,v=.map (some b)∧F≤b∧MapAt w.heap[b]? B∧B.1.size=ks.length∧B.1.size=vs.length∧(∀(i:Nat)(e:MapEntry)(d:D),B.1[i]?=some e→ks[i]?=some d→Rd I e.key d)∧(∀(i:Nat)(e:MapEntry)(d:D),B.1[i]?=some e→vs[i]?=some d→Rd I e.val d)∧(∀o,I.cell b o=none)∧I.mp b=some B
 |.iter ks vs done=>∃b G B seen,v=.pointer (some ⟨b,0,none⟩)∧F≤b∧w.heap[b]?=some (.mapIter G B.2 seen B.2)∧((∀r,G=some r→I.mp r=some B)∧(G=none→B.1 = #[]))∧B.1.size=ks.length∧B.1.size=vs.length∧(∀(i:Nat)(e:MapEntry)(d:D),B.1[i]?=some e→ks[i]?=some d→Rd I e.key d)∧(∀(i:Nat)(e:MapEntry)(d:D),B.1[i]?=some e→vs[i]?=some d→Rd I e.val d)∧(seen.toList=done.map (sw B)∧∀i∈done,i<B.1.size)∧I.cM b
 |.aU e size ks vs op=>∃b B,v=.map (some b)∧F≤b∧MapAt w.heap[b]? B∧B.1.size=ks.length∧B.1.size=vs.length∧(∀(i:Nat)(e:MapEntry)(d:D),B.1[i]?=some e→ks[i]?=some d→Rd I e.key d)∧(∀(i:Nat)(e:MapEntry)(d:D),B.1[i]?=some e→vs[i]?=some d→Rd I e.val d)∧I.cM b∧0<size∧sb F w I m l e size B vs op
 |.bD ks ts=>∃b B,v=.map (some b)∧F≤b∧MapAt w.heap[b]? B∧B.1.size=ks.length∧B.1.size=ts.length∧(∀(i:Nat)(e:MapEntry)(d:D),B.1[i]?=some e→ks[i]?=some d→Rd I e.key d)∧(∀(i:Nat)(e:MapEntry)(t:T),B.1[i]?=some e→ts[i]?=some t→ah I m l e.val t)∧I.cM b
 |.frame base vals t=>own v=none∧base≤l.length∧∀k,ah I m (l.take base) (vals k) (get t k)
 |.loop base n ps aP body t st cP=>∃b r,v=.func (.yield b) #[] #[]∧F≤b∧w.heap[b]?=some (.loop r)∧(r.state=st∧r.pending=cP∧r.params=ps∧r.assign=aP∧r.body=body∧r.tmps.size=n)∧base≤l.length∧(∀k,ah I m (l.take base) (r.tmps.getD k undef) (get t k))∧I.cM b
class aL where
 on:Prop
 eH:Nat→Option D:=λ_=>none
variable [aL]
structure cw(w:World)(I:aq):Prop where
 cell:∀b o v,I.cell b o=some v→w.cell? ⟨b,o,none⟩=some v
 mp:∀b es,I.mp b=some es→MapAt w.heap[b]? es
 df:∀b,I.df b→w.heap[b]?=some (.deferred (some []))
 c9:∀g d,aL.eH g=some d→Rd I (.pointer (some ⟨g,0,none⟩)) (.box d)
theorem cw.gE{w:World}{I:aq}(h:cw w I){b:Nat}(j:I.df b):b<w.heap.size:=(Array.getElem?_eq_some_iff.1 (h.df b j)).1
theorem cw.ig{w:World}{I:aq}(h:cw w I){b:Nat}{o:Obj}(j:w.heap[b]?=some o)(B:o ≠ .deferred (some [])):¬I.df b:=λk=>by
 rw[h.df b k]at j;injection j with j;exact B j.symm
theorem cw.lt{w:World}{I:aq}(h:cw w I){b o:Nat}{v:Value}(j:I.cell b o=some v):b<w.heap.size:=World.block_lt_of_cell? w ⟨b,o,none⟩ (h.cell b o v j)
theorem cw.jv{w:World}{I:aq}(h:cw w I){b:Nat}{j:ME}(k:I.mp b=some j):b<w.heap.size:=by
 have B:=h.mp b j k
 exact(Array.getElem?_eq_some_iff.1 B.1).1
theorem cw.cM{w:World}{I:aq}(h:cw w I){b:Nat}(k:w.heap.size≤b):I.cM b:=by
 refine⟨λo=>?_,?_⟩
 ·cases j:I.cell b o with
  |none=>rfl
  |some v=>have:=h.lt j;omega
 cases j:I.mp b with
 |none=>rfl
 |some v=>have:=h.jv j;omega
structure eE(B:Nat)(I J:aq):Prop where
 lc:∀b o v,I.cell b o=some v→J.cell b o=some v
 lm:∀b es,I.mp b=some es→J.mp b=some es
 ld:∀b,b<B→I.df b→J.df b
 cell:∀b,b<B→J.cell b=I.cell b
 mp:∀b,b<B→J.mp b=I.mp b
theorem eE.of {j:Nat}{I J:aq}(h:I.le J)(k:∀b,b<j→J.cell b=I.cell b)(B:∀b,b<j→J.mp b=I.mp b):eE j I J:=⟨h.cell,h.mp,λb _=>h.df b,k,B⟩
theorem eE.le{j:Nat}{I J:aq}(h:eE j I J)(B:∀b,I.df b→b<j):I.le J:=⟨h.lc,h.lm,λb k=>h.ld b (B b k) k⟩
theorem eE.refl(j:Nat)(I:aq):eE j I I:=.of (.refl I) (λ_ _=>rfl) (λ_ _=>rfl)
theorem eE.trans{B F:Nat}{I J K:aq}(h:eE B I J)(k:eE F J K)(G:B≤F):eE B I K:=
 ⟨λ_ _ _ x=>k.lc _ _ _ (h.lc _ _ _ x),λ_ _ x=>k.lm _ _ (h.lm _ _ x),λb j x=>k.ld b (by omega) (h.ld b j x),λb j=>(k.cell b (by omega)).trans (h.cell b j),λb j=>(k.mp b (by omega)).trans (h.mp b j)⟩
def alive(l:List AO)(id:Nat):Bool:=isVar l id||isRow l id
structure cm(B:Nat)(w w':World):Prop where
 os:w'.os=w.os
 tape:w'.tape=w.tape
 output:w'.output=w.output
 size:w.heap.size≤w'.heap.size
 block:∀k,k<B→w'.heap[k]?=w.heap[k]?
 drawn:aL.on→w.drawn≤w'.drawn
theorem cm.refl(j:Nat)(w:World):cm j w w:=⟨rfl,rfl,rfl,Nat.le_refl _,λ_ _=>rfl,λ_=>Nat.le_refl _⟩
theorem cm.below{j:Nat}{w w':World}(h:cm j w w'):Below j w w':=⟨h.os,h.tape,h.output,h.size,h.block⟩
theorem cm.of {j:Nat}{w w':World}(h:Below j w w')(k:aL.on→w.drawn≤w'.drawn):cm j w w':=⟨h.os,h.tape,h.output,h.size,h.block,k⟩
theorem cm.trans{j:Nat}{a b c:World}(h:cm j a b)(k:cm j b c):cm j a c:=.of (h.below.trans k.below) λo=>Nat.le_trans (h.drawn o) (k.drawn o)
theorem cm.mono{j k:Nat}{w w':World}(h:cm j w w')(B:k≤j):cm k w w':=.of (h.below.mono B) h.drawn
theorem cm.alloc{j:Nat}{w w':World}(h:cm j w w')(k:j≤w'.heap.size)(o:Obj):cm j w (w'.alloc o):=.of (h.below.alloc k o) h.drawn
theorem cm.drew{j:Nat}{w w':World}(h:cm j w w'):cm j w w'.drew:=.of h.below.drew λo=>Nat.le_trans (h.drawn o) (Nat.le_succ _)
structure av(w0:World)(I0:aq)(w:World)(I:aq)(m:Nat→Value)(l:List AO):Prop where
 below:cm w0.heap.size w0 w
 sat:cw w I
 ext:eE w0.heap.size I0 I
 obj:∀id o,l[id]?=some o→dh w0.heap.size w I m l (m id) o
 sep:∀i j b,i≠j→alive l i=true→alive l j=true→own (m i)=some b→own (m j)≠some b
end Go.af
namespace Go.af
open Go Go.RowKit
theorem vY{α:Type}:∀(x:Ask α)(w:World),w.drawn≤(w.ask x).2.drawn
 |.done a,w=>Nat.le_refl _
 |.ask j range k,w=>by
  simp only[World.ask]
  split
  ·exact vY _ w
  exact Nat.le_trans (Nat.le_succ _) (vY (k _) {w with drawn:=w.drawn+1})
theorem TN(w:World)(c:Sys):w.drawn≤(w.sys c).2.drawn:=by
 unfold World.sys
 have h:=vY (Kernel.perform c w.os) w
 split
 ·exact Nat.le_refl _
 rename_i r B w' k j
 rw[j]at h;exact h
theorem Us{p:Program}{w w':World}{at_:Addr}{u:TypeId}{k:Addr}{v:Value}{j:Bool}{l:List Addr}(h:w.viewStore p at_ u k v j=.ok (w',l)):w'.drawn=w.drawn:=by
 unfold World.viewStore at h
 simp only[bind,Except.bind,pure,Except.pure,throw,throwThe,MonadExceptOf.throw]at h
 repeat' split at h
 all_goals first|cases h;done|skip
 all_goals (injection h with h;injection h with h _;subst h;rfl)
theorem L6{p:Program}{w w':World}{a:Addr}{v:Value}{j:Bool}{l:List Addr}(h:w.farStore p a v j=.ok (w',l)):w'.drawn=w.drawn:=by
 unfold World.farStore at h
 split at h
 ·split at h
  ·rename_i r k
   injection h with h;subst h;exact Us k
  cases h
 cases h
theorem fk{α:Type}(p:Program):∀(s:Sem α) (w:World) (a:α) (w':World),s.run p w=.ok a w'→w.drawn≤w'.drawn
 |.pure a,w,b,w',h=>by simp only[Sem.run]at h;cases h;exact Nat.le_refl _
 |.load m a k,w,b,w',h=>by
  simp only[Sem.run]at h
  split at h
  ·exact fk p _ w b w' h
  split at h
  ·exact fk p _ w b w' h
  cases h
 |.store m a v k,w,b,w',h=>by
  have B:∀u:Value,(match w.cell? a with
    |some _=>if w.frozen? a then Result.halt (.unsupported (.unsafePointer "a write to bytes that a string shares")) w else k.run p (w.setCell a u)
    |none=>match w.farStore p a u (m == .atomic)with
     |.ok (w,_)=>k.run p w
     |.error h=>.halt h w)=Result.ok b w'→w.drawn≤w'.drawn:=by
   intro u h
   split at h
   ·split at h
    ·cases h
    have:=fk p k _ b w' h;exact this
   split at h
   ·rename_i F l j
    have:=fk p k _ b w' h
    rw[L6 j]at this;exact this
   cases h
  cases v<;>simp only[Sem.run]at h<;>first|exact B _ h|cases h
 |.new o k,w,b,w',h=>by simp only[Sem.run]at h;have:=fk p _ _ b w' h;exact this
 |.shape r k,w,b,w',h=>by simp only[Sem.run]at h;exact fk p _ _ b w' h
 |.freeze a n k,w,b,w',h=>by
  simp only[Sem.run]at h
  have:=fk p _ _ b w' h
  unfold World.freeze at this
  split at this<;>exact this
 |.frozen a k,w,b,w',h=>by simp only[Sem.run]at h;exact fk p _ _ b w' h
 |.getObj r k,w,b,w',h=>by
  simp only[Sem.run]at h
  split at h
  ·cases h
  ·exact fk p _ _ b w' h
  cases h
 |.setObj r o k,w,b,w',h=>by
  simp only[Sem.run]at h
  split at h
  ·cases h
  ·have:=fk p _ _ b w' h;exact this
  cases h
 |.choose q k,w,b,w',h=>by
  simp only[Sem.run]at h
  split at h
  ·exact fk p _ _ b w' h
  exact Nat.le_trans (Nat.le_succ _) (fk p _ _ b w' h)
 |.sys c k,w,b,w',h=>by simp only[Sem.run]at h;exact Nat.le_trans (TN w c) (fk p _ _ b w' h)
 |.program k,w,b,w',h=>by simp only[Sem.run]at h;exact fk p _ _ b w' h
 |.mark m k,w,b,w',h=>by simp only[Sem.run]at h;exact fk p _ _ b w' h
 |.halt x,w,b,w',h=>by simp only[Sem.run]at h;cases h
theorem rF(s:ByteArray):∀(bound i:Nat)(j:Array Value),(∀x∈j.toList,∃n,x=.int .i32 n)→∀x∈(Conv.runesFrom s bound i j).toList,∃n,x=.int .i32 n
 |0,_,j,h=>h
 |bound+1,i,j,h=>by
  unfold Conv.runesFrom
  split
  ·refine rF s bound _ _ λx k=>?_
   simp at k
   rcases k with k|rfl
   ·exact h x (by simpa using k)
   exact⟨_,rfl⟩
  exact h
end Go.af
namespace Go.af
open Go Go.RowKit
inductive TD where
 |fI
 |cA (k:IntKind)
 |string
 |slice (e:TypeId)
 |struct (fs:List (Nat×TypeId))
 |array (n:Nat) (e:TypeId)
 |map (k v:TypeId)
 |iface
 deriving DecidableEq,Inhabited
structure TI where
 size:Nat
 bytes:Nat
 zero:List D
 desc:TD
def TD.agg:TD→Bool
 |.struct _=>true
 |.array _ _=>true
 |_=>false
abbrev bN:=TypeId→Option TI
abbrev vQ:=FuncId→List D→Option (D×Prop)
structure FR where
 t:T
 l:List AO
 ob:Prop
abbrev Az:=FuncId→List T→List AO→Option FR
def dY(agg:Bool)(cs:List D):D:=if agg then .agg cs else cs.headD .ch
inductive vS where
 |none
 |new (o:AO)
 |aC (l:List AO)
structure R where
 t:T
 bM:vS
 ob:Prop
def R.ok(t:T):R:=⟨t,.none,True⟩
def R.bad:R:=⟨.undef,.none,False⟩
def lG:Value→D→Bool
 |.bool b,.bool c=>b == c
 |.int k n,.int j B=>k == j&&n == B
 |.string s,.str s'=>s.data == s'.data
 |.slice none 0 0,.slice _ []=>true
 |.pointer none,.ch=>true
 |.map none,.map [] []=>true
 |.nilFunc,.eV=>true
 |.nilIface,.fH=>true
 |_,_=>false
def sN:Value→T
 |.bool b=>.d (.bool b)
 |.int k n=>.d (.int k n)
 |.string s=>.d (.str s)
 |.slice none 0 0=>.aX 0
 |.pointer none=>.d .ch
 |.map none=>.d (.map [] [])
 |.nilFunc=>.d .eV
 |.nilIface=>.d .fH
 |_=>.undef
def cz[aL](s:Tm):Operand→T
 |.tmp t=>get s t
 |.const v=>sN v
 |.func f=>.d (.fn f)
 |.global g=>match aL.eH g with|some d=>.aS d.cells.length [d] 0 0|none=>.undef
structure St where
 t:Tm
 l:List AO
def bY(l:List AO):T→Option (D×List AO)
 |.d x=>some (x,l)
 |.aQ _ x=>some (x,l)
 |.aX s=>some (.slice s [],l)
 |.row id=>match l[id]? with
  |some (.aM _ s els)=>some (.slice s els,l)
  |some (.row e s els)=>some (.slice s els,l.set id (.aM e s els))
  |_=>none
 |.map id=>match l[id]? with
  |some (.cU ks vs)=>some (.map ks vs,l)
  |some (.map ks vs)=>some (.map ks vs,l.set id (.cU ks vs))
  |_=>none
 |_=>none
def cy:List AO→List T→Option (List D×List AO)
 |l,[]=>some ([],l)
 |l,t::ts=>match bY l t with
  |none=>none
  |some (x,l')=>match cy l' ts with
   |none=>none
   |some (xs,j)=>some (x::xs,j)
def il(l:List AO):T→Bool
 |.d _=>true
 |.aQ _ _=>true
 |.aX _=>true
 |.row id=>match l[id]? with|some (.aM ..)=>true|_=>false
 |.map id=>match l[id]? with|some (.cU ..)=>true|_=>false
 |_=>false
def cC(l:List AO)(t:T):Option (D×List AO):=match t with
 |.agg ts=>(match cy l ts with
  |some (ds,l')=>some (.agg ds,l')
  |none=>none)
 |t=>bY l t
def eZ:List AO→List T→Option (List D×List AO)
 |l,[]=>some ([],l)
 |l,t::ts=>match cC l t with
  |none=>none
  |some (x,l')=>match eZ l' ts with
   |none=>none
   |some (xs,j)=>some (x::xs,j)
def mg(l:List AO)(t:T):Bool:=match t with
 |.agg ts=>ts.all (il l)
 |t=>il l t
def arith(k:IntKind)(n:Int):D×Prop:=
 match k with
 |.i64=>(.int .i64 n,-9223372036854775808≤n∧n≤9223372036854775807)
 |k=>(.int k (k.wrap n),True)
mutual
def jl:D→D→Bool
 |.bool a,.bool b=>a == b
 |.int _ a,.int _ b=>a == b
 |.str a,.str b=>a == b
 |.agg xs,.agg ys=>dL xs ys
 |_,_=>false
def dL:List D→List D→Bool
 | [],[]=>true
 |x::xs,y::ys=>jl x y&&dL xs ys
 |_,_=>false
end
inductive Lf where
 |bool
 |int (k:IntKind)
 |str
 deriving DecidableEq
def qo:Lf→D→Bool
 |.bool,.bool _=>true
 |.int k,.int j _=>k == j
 |.str,.str _=>true
 |_,_=>false
def eS:List Lf→List D→Bool
 | [],[]=>true
 |x::xs,d::ds=>qo x d&&eS xs ds
 |_,_=>false
def pP(k:IntKind)(a b:Int):Int:=k.wrap ((BitVec.ofInt k.bits a &&& BitVec.ofInt k.bits b).toNat:Int)
def pD(k:IntKind)(a b:Int):Int:=a.fdiv (2 ^ min b.toNat k.bits)
def zP(op:BinOp)(k:IntKind)(a b:Int):Option (D×Prop):=match op with
 |.shr=>some (.int k (pD k a b),0≤b)
 |_=>none
def dM(gJ:TypeId→Option (List Lf))(op:BinOp)(ty:TypeId):D→D→Option (D×Prop)
 |.int k a,.int j b=>
  if k≠j then zP op k a b else
  match op with
  |.shr=>some (.int k (pD k a b),0≤b)
  |.and=>some (.int k (pP k a b),True)
  |.add=>some ((arith k (a+b)).1,(arith k (a+b)).2)
  |.sub=>some ((arith k (a-b)).1,(arith k (a-b)).2)
  |.mul=>some ((arith k (a*b)).1,(arith k (a*b)).2)
  |.quo=>(match k with |.i64=>some (.int .i64 (a.tdiv b),b≠0 ∧ -9223372036854775808≤a.tdiv b∧a.tdiv b≤9223372036854775807)|_=>none)
  |.rem=>some (.int k (a.tmod b),b≠0)
  |.eql=>some (.bool (decide (a=b)),True)
  |.neq=>some (.bool (!decide (a=b)),True)
  |.lss=>some (.bool (decide (a<b)),True)
  |.leq=>some (.bool (decide (a≤b)),True)
  |.gtr=>some (.bool (decide (b<a)),True)
  |.geq=>some (.bool (decide (b≤a)),True)
  |_=>none
 |.bool a,.bool b=>match op with
  |.eql=>if gJ ty=some [.bool]then some (.bool (a == b),True)else none
  |.neq=>if gJ ty=some [.bool]then some (.bool (!(a == b)),True)else none
  |_=>none
 |.str a,.str b=>match op with
  |.eql=>some (.bool (a == b),True)
  |.neq=>some (.bool (!(a == b)),True)
  |.add=>some (.str (a++b),(a.size:Int)+(b.size:Int)≤9223372036854775807)
  |_=>none
 |.agg xs,.agg ys=>match op with
  |.eql=>(match gJ ty with|some ls=>if ls=[.bool]then none else some (.bool (dL xs ys),eS ls xs=true∧eS ls ys=true)|none=>none)
  |.neq=>(match gJ ty with|some ls=>if ls=[.bool]then none else some (.bool (!(dL xs ys)),eS ls xs=true∧eS ls ys=true)|none=>none)
  |_=>none
 |_,_=>none
def vH(op:UnOp):D→Option (D×Prop)
 |.bool b=>match op with |.not=>some (.bool (!b),True)|_=>none
 |.int k n=>match op with |.neg=>some ((arith k (0-n)).1,(arith k (0-n)).2)|_=>none
 |_=>none
def nG:Option (D×Prop)→R
 |some (x,ob)=>⟨.d x,.none,ob⟩
 |none=>.bad
def bh:T→List T
 |.d x=>x.cells.map .d
 |.agg ts=>ts
 |t=>[t]
def T.fh:T→Bool
 |.d x=>x.one
 |.aw _=>false
 |.cond _ _=>false
 |.agg _=>false
 |.undef=>false
 |_=>true
def kH:T→Option D
 |.d x=>some x
 |.aX s=>some (.slice s [])
 |_=>none
def dQ:T→Option D
 |.d x=>some x
 |_=>none
def eA(agg:Bool)(cs:List T):T:=
 if agg then(match cs.mapM dQ with|some ds=>.d (.agg ds)|none=>.agg cs)else cs.headD .undef
def fX:D→T
 |.slice s []=>.aX s
 |x=>.d x
def unbox:T→T
 |.d (.box d)=>.aS d.cells.length [d] 0 0
 |.d (.self f)=>.aS 1 [.ar f [.self f]] 0 0
 |t=>t
def kS(g:FuncId)(ts:List T):T:=match ts.mapM dQ with
 |some ds=>.d (.ar g ds)
 |none=>.ar g ts
def setAt{α:Type}(l:List α)(off:Nat)(xs:List α):List α:=l.take off++xs++l.drop (off+xs.length)
def aE(E:bN)(t:TypeId):Nat:=((E t).map TI.size).getD 0
def j7(j:Nat→Option (Nat×Nat))(cells:List T):List (Nat×T)→Option (List T)
 | []=>some cells
 | (i,t)::rest=>match j i with
  |some (off,size)=>if(bh t).length=size∧off+size≤cells.length∧(bh t).all T.fh=true then j7 j (setAt cells off (bh t)) rest else none
  |none=>none
def pg(E:bN)(fs:List (Nat×TypeId))(i:Nat):Option (Nat×Nat):=(fs[i]?).map λf=>(f.1,aE E f.2)
def dS(els:List D)(k:Nat):D:=(els[k]?).getD .ch
def qj:D→Bool
 |.agg _=>true
 |_=>false
def hY(i:TI)(size:Nat)(els:List D)(k off:Nat):R:=
 if size=i.size∧off=0 then⟨.d (dS els k),.none,k<els.length∧qj (dS els k)=i.desc.agg⟩
 else⟨.d (dY i.desc.agg (((dS els k).cells.drop off).take i.size)),.none,k<els.length∧off+i.size≤size⟩
def eT(E:bN)(ty:TypeId)(l:List AO):T→R
 |.ptr id off=>match E ty,l[id]? with
  |some i,some (.var _ cs)=>if off+i.size≤cs.length then .ok (eA i.desc.agg ((cs.drop off).take i.size))else .bad
  |_,_=>.bad
 |.aS size els k off=>match E ty with
  |some i=>hY i size els k off
  |none=>.bad
 |.aO id k off=>match E ty,l[id]? with
  |some i,some (.row _ size els)|some i,some (.aM _ size els)=>hY i size els k off
  |_,_=>.bad
 |_=>.bad
def lC(l:List AO):T→T→R
 |.ptr id off,x=>match l[id]? with
  |some (.var ty cs)=>if off+(bh x).length≤cs.length then⟨.undef,.aC (l.set id (.var ty (setAt cs off (bh x)))),((bh x).all T.fh)=true⟩else .bad
  |_=>.bad
 |.aO id k 0,.d x=>match l[id]? with
  |some (.row e size els)=>if x.cells.length=size then⟨.undef,.aC (l.set id (.row e size (els.set k x))),x.cells.length=size∧x.cells.all D.one=true∧k<els.length⟩else(match dS els k with
   |.agg cs=>⟨.undef,.aC (l.set id (.row e size (els.set k (.agg (setAt cs 0 x.cells))))),0+x.cells.length≤size∧x.cells.all D.one=true∧k<els.length⟩
   |_=>.bad)
  |_=>.bad
 |.aO id k (off+1),.d x=>match l[id]? with
  |some (.row e size els)=>(match dS els k with
   |.agg cs=>⟨.undef,.aC (l.set id (.row e size (els.set k (.agg (setAt cs (off+1) x.cells))))),off+1+x.cells.length≤size∧x.cells.all D.one=true∧k<els.length⟩
   |_=>.bad)
  |_=>.bad
 |_,_=>.bad
def jq(E:bN)(s:TypeId)(f:Nat):T→R
 |.ptr id off=>match E s with|some ⟨_,_,_,.struct fs⟩=>(match fs[f]? with|some p=>if 0<aE E p.2 then .ok (.ptr id (off+p.1))else .bad|none=>.bad)|_=>.bad
 |.aS size els k off=>match E s with|some ⟨_,_,_,.struct fs⟩=>(match fs[f]? with|some p=>if 0<aE E p.2 then .ok (.aS size els k (off+p.1))else .bad|none=>.bad)|_=>.bad
 |.aO id k off=>match E s with|some ⟨_,_,_,.struct fs⟩=>(match fs[f]? with|some p=>if 0<aE E p.2 then .ok (.aO id k (off+p.1))else .bad|none=>.bad)|_=>.bad
 |_=>.bad
def mX(E:bN)(s:TypeId)(f:Nat):T→R
 |.d (
    .agg cs)=>match E s with
  |some ⟨_,_,_,.struct fs⟩=>(match fs[f]? with
   |some p=>(match E p.2 with
    |some i=>if p.1+i.size≤cs.length∧0<i.size then .ok (.d (dY i.desc.agg ((cs.drop p.1).take i.size)))else .bad
    |none=>.bad)
   |none=>.bad)
  |_=>.bad
 |_=>.bad
def cL:T→Option (IntKind×Int)
 |.d (.int k n)=>some (k,n)
 |_=>none
def iQ(E:bN)(t:TypeId)(l:List AO)(x i:T):R:=
 match E t,cL i with
 |some ⟨_,_,_,.slice e⟩,some (_,n)=>
  (match x with
  |.d (.slice size els)=>if size=aE E e∧0<size then⟨.aS size els n.toNat 0,.none,0≤n∧n<els.length⟩else .bad
  |.row id=>(match l[id]? with
   |some (.row _ size els)|some (.aM _ size els)=>if size=aE E e∧0<size then⟨.aO id n.toNat 0,.none,0≤n∧n<els.length⟩else .bad
   |_=>.bad)
  |_=>.bad)
 |some ⟨_,_,_,.array len e⟩,some (_,n)=>
  (match x with
  |.aS size els k off=>if(E e).isSome=true then⟨.aS size els k (off+n.toNat*aE E e),.none,0≤n∧n<len⟩else .bad
  |_=>.bad)
 |_,_=>.bad
def mapOf(l:List AO):T→Option (List D×List D)
 |.d (.map ks vs)=>some (ks,vs)
 |.map id=>match l[id]? with
  |some (.map ks vs)|some (.cU ks vs)|some (.aU _ _ ks vs _)=>some (ks,vs)
  |_=>none
 |_=>none
def iT(E:bN)(t:TypeId)(l:List AO)(x:T):R:=
 match E t with
 |some ⟨_,_,_,.string⟩=>(match x with |.d (.str s)=>.ok (.d (.int .i64 s.size))|_=>.bad)
 |some ⟨_,_,_,.slice _⟩=>(match x with
  |.d (.slice _ els)=>.ok (.d (.int .i64 els.length))
  |.aX _=>.ok (.d (.int .i64 0))
  |.row id=>(match l[id]? with
   |some (.row _ _ els)|some (.aM _ _ els)=>.ok (.d (.int .i64 els.length))
   |_=>.bad)
  |_=>.bad)
 |some ⟨_,_,_,.map _ _⟩=>(match mapOf l x with|some (ks,_)=>.ok (.d (.int .i64 ks.length))|none=>.bad)
 |_=>.bad
def jI(x:T)(lo hi:Option T):R:=
 match x with
 |.d (.slice size els)=>
  (match lo,hi with
  |none,none=>.ok x
  |some a,none=>(match cL a with|some (_,n)=>⟨.d (.slice size (els.drop n.toNat)),.none,0≤n∧n≤els.length⟩|none=>.bad)
  |none,some b=>(match cL b with|some (_,n)=>⟨.d (.slice size (els.take n.toNat)),.none,0≤n∧n≤els.length⟩|none=>.bad)
  |some a,some b=>(match cL a,cL b with
   |some (_,n),some (_,h)=>⟨.d (.slice size ((els.take h.toNat).drop n.toNat)),.none,0≤n∧n≤h∧h≤els.length⟩
   |_,_=>.bad))
 |_=>.bad
def mz(E:bN)(e:TypeId)(l:List AO)(id:Nat)(lo hi:Option T):R:=
 match l[id]? with
 |some (.row _ size els)=>if size=aE E e∧(E e).isSome=true then
   (match lo,hi with
   |some a,none=>(match cL a with|some (_,n)=>⟨.sub id n.toNat els.length,.aC l,0≤n∧n≤els.length⟩|none=>.bad)
   |none,some b=>(match cL b with|some (_,n)=>⟨.sub id 0 n.toNat,.aC l,0≤n∧n≤els.length⟩|none=>.bad)
   |_,_=>.bad)else .bad
 |_=>.bad
def jJ(E:bN)(e:TypeId)(l:List AO)(id:Nat)(lo hi:Option T)(mx:T):R:=
 match l[id]?,lo,hi with
 |some (.row _ size els),some a,some b=>(match cL a,cL b,cL mx with
  |some (_,n),some (_,h),some (_,q)=>if size=aE E e∧(E e).isSome=true then⟨.undef,.aC l,0≤n∧n≤h∧h≤q∧q≤els.length⟩else .bad
  |_,_,_=>.bad)
 |_,_,_=>.bad
def jV(E:bN)(t:TypeId)(l:List AO)(x:T):R:=
 match E t,x with
 |some ⟨_,_,_,.slice e⟩,.sub id lo hi=>(match E e,l[id]? with
  |some i,some (.row j size els)=>if size=i.size∧hi=els.length∧0<size then⟨.d (.aw []),.aC (l.set id (.row j size (els.take lo++List.replicate (hi-lo) (dY i.desc.agg i.zero)))),True⟩else .bad
  |_,_=>.bad)
 |_,_=>.bad
def kj(E:bN)(t:TypeId)(l:List AO)(nid:Nat)(a b:T):R:=
 match E t,cL a,cL b with
 |some ⟨_,_,_,.slice e⟩,some (_,n),some (_,c)=>(match E e with
  |some i=>if 0<i.size then⟨.row nid,.aC (l++[.row e i.size (List.replicate n.toNat (dY i.desc.agg i.zero))]),0≤n∧c=n∧n*i.bytes≤140737488355328∧n≤9223372036854775807⟩else .bad
  |none=>.bad)
 |_,_,_=>.bad
def iG(E:bN)(t:TypeId)(l:List AO)(nid:Nat)(s x:T):R:=
 match E t with
 |some ⟨_,_,_,.slice e⟩=>(match E e with
  |some i=>
   (match cC l x with
   |some (.slice k new,l1)=>if(k=i.size∨new.isEmpty)∧0<i.size then
     (match s with
     |.aX _=>⟨.row nid,.aC (l1++[.row e i.size new]),new.length*i.bytes≤140737488355328∧new.length≤9223372036854775807⟩
     |.row id=>(match l1[id]? with
      |some (.row j size els)=>if j=e∧size=i.size∧nid=l1.length then⟨.row nid,.aC (l1.set id .dead++[.row e size (els++new)]),(els.length+new.length)*i.bytes≤140737488355328∧els.length+new.length≤9223372036854775807⟩else .bad
      |_=>.bad)
     |.aQ id _=>(match l1[id]? with
      |some (.aM j size els)=>if j=e∧size=i.size∧nid=l1.length then⟨.aQ nid (.slice size (els++new)),.aC (l1.set id .dead++[.aM e size (els++new)]),(els.length+new.length)*i.bytes≤140737488355328∧els.length+new.length≤9223372036854775807⟩else .bad
      |_=>.bad)
     |_=>.bad)else .bad
   |_=>.bad)
  |none=>.bad)
 |_=>.bad
def sC(C:vQ)(f:FuncId)(l:List AO)(ts:List T):R:=
 match eZ l ts with
 |some (ds,l')=>(match C f ds with
  |some (x,ob)=>⟨.d x,if ts.all (mg l)then .none else .aC l',ob⟩
  |none=>.bad)
 |none=>.bad
def qU(c a b:T):R:=
 match c with
 |.d (.bool c)=>
  let f:Bool→T→Option (Bool×Prop):=λj t=>match t with
   |.d (.bool x)=>some (x,True)
   |.cond pc (.d (.bool x))=>some (x,c=j→holds pc)
   |_=>none
  (match f true a,f false b with
  |some (x,p),some (y,q)=>⟨.d (.bool (if c then x else y)),.none,p∧q⟩
  |some (x,p),none=>⟨.d (.bool x),.none,c=true∧p⟩
  |none,some (y,q)=>⟨.d (.bool y),.none,c=false∧q⟩
  |none,none=>.bad)
 |_=>.bad
def BJ(E:bN)(t:TypeId):Nat:=match E t with|some ⟨_,_,_,.slice e⟩=>aE E e|_=>0
def typed(E:bN)(t:TypeId):T→T
 |.aX _=>.aX (BJ E t)
 |x=>x
def dZ(E:bN):List TypeId→List T→List T
 |t::ts,x::xs=>typed E t x::dZ E ts xs
 |_,xs=>xs
structure Env where
 E:bN
 C:vQ
 gJ:TypeId→Option (List Lf)
 F:Az:=λ_ _ _=>none
 P:Program
 inl:FuncId→Bool:=λ_=>false
 sub:Bool:=false
def pV(V:Env)(g:FuncId)(l:List AO)(ts:List T):R:=
 match V.F g ts l with
 |some ⟨t,l',ob⟩=>⟨t,.aC l',ob⟩
 |none=>sC V.C g l ts
def sy(s:ByteArray)(n:Nat):Int:=((s[n]?).getD 0).toNat
def nc(E:bN)(t:TypeId)(x i:T):R:=
 match E t,x,cL i with
 |some ⟨_,_,_,.string⟩,.d (.str s),some (_,n)=>⟨.d (.int .u8 (sy s n.toNat)),.none,0≤n∧n<s.size⟩
 |_,_,_=>.bad
def Ih:Value→D
 |.int k n=>.int k n
 |_=>.ch
def mj(s:ByteArray):List D:=(Conv.runesFrom s s.size 0 #[]).toList.map Ih
def lQ(E:bN)(j t:TypeId)(x:T):R:=
 match E j,E t,x with
 |some ⟨_,_,_,.cA _⟩,some ⟨_,_,_,.cA k⟩,.d (.int _ n)=>.ok (.d (.int k (k.wrap n)))
 |some ⟨_,_,_,.string⟩,some ⟨_,_,_,.slice e⟩,.d (.str s)=>(match E e with
  |some ⟨1,_,_,.cA .i32⟩=>⟨.d (.slice 1 (mj s)),.none,s.size≤16777216⟩
  |_=>.bad)
 |_,_,_=>.bad
def u9(E:bN)(t:TypeId)(l:List AO)(nid:Nat)(x:T):R:=match E t,x with
 |some ⟨_,_,_,.map _ _⟩,.map id=>(match cC l (.map id)with
  |some (.map ks vs,l')=>⟨.ptr nid 0,.aC (l'++[.iter ks vs []]),True⟩
  |_=>.bad)
 |some ⟨_,_,_,.map _ _⟩,.d (.map ks vs)=>⟨.ptr nid 0,.aC (l++[.iter ks vs []]),True⟩
 |_,_=>.bad
def sX(l:List AO)(x:T):R:=match x with
 |.ptr id 0=>(match l[id]? with
  |some (.iter ks vs done)=>(match done.getLast? with
   |some i=>(match ks[i]?,vs[i]? with|some k,some v=>.ok (.d (.aw [k,v]))|_,_=>.bad)
   |none=>.bad)
  |_=>.bad)
 |_=>.bad
def fe:D→D→Bool
 |.int _ a,.int _ b=>decide (a=b)
 |.agg a,.agg b=>dL a b
 |.str a,.str b=>a == b
 |_,_=>false
def bW(k:D):List D→Nat→Option Nat
 | [],_=>none
 |a::r,i=>if fe k a=true then some i else bW k r (i+1)
def fF(kk:IntKind):D→Bool
 |.int j _=>j == kk
 |_=>false
def lh(n:Nat)(kk:IntKind):D→Bool
 |.agg cs=>decide (cs.length=n)&&cs.all (fF kk)
 |_=>false
inductive KT where
 |int (kk:IntKind)
 |arr (n:Nat) (kk:IntKind)
 |str
 deriving DecidableEq
def KT.ok:KT→D→Bool
 |.int kk,d=>fF kk d
 |.arr n kk,d=>lh n kk d
 |.str,.str _=>true
 |.str,_=>false
def gZ(K:KT)(ks:List D):Bool:=ks.all K.ok
def Al:List (Nat×TypeId)→Bool
 | (o,t)::p::r=>decide ((o,t)::p::r=(List.range (r.length+2)).map λj=>(j,t))
 |_=>false
def tH(E:bN)(k:TypeId):Option KT:=match E k with
 |some ⟨_,_,_,.cA kk⟩=>some (.int kk)
 |some ⟨_,_,_,.array n j⟩=>(match E j with|some ⟨_,_,_,.cA kk⟩=>some (.arr n kk)|_=>none)
 |some ⟨_,_,_,.struct fs⟩=>(match fs with
  | (_,t0)::_=>(match E t0 with
   |some ⟨_,_,_,.cA kk⟩=>if Al fs=true then some (.arr fs.length kk)else none
   |_=>none)
  | []=>none)
 |some ⟨_,_,_,.string⟩=>some .str
 |_=>none
def eU(E:bN)(t:TypeId):Option (KT×TI):=match E t with
 |some ⟨_,_,_,.map kt e⟩=>match tH E kt,E e with
  |some K,some i=>some (K,i)
  |_,_=>none
 |_=>none
def nu(E:bN)(t:TypeId)(l:List AO)(x k:T)(ok:Bool):R:=
 match eU E t,mapOf l x,k with
 |some (K,i),some (ks,vs),.d kd=>
  if K.ok kd=true then
   match bW kd ks 0 with
   |some j=>⟨if ok then .d (.aw [dS vs j,.bool true])else .d (dS vs j),.none,gZ K ks=true⟩
   |none=>⟨if ok then .d (.aw [dY i.desc.agg i.zero,.bool false])else .d (dY i.desc.agg i.zero),.none,gZ K ks=true⟩
  else .bad
 |_,_,_=>.bad
def jw(E:bN)(t:TypeId)(l:List AO)(x k v:T):R:=
 match eU E t,x,k,cC l v with
 |some (K,_),.map id,.d kd,some (d,l1)=>
  if K.ok kd=true then
   match l1[id]? with
   |some (.map ks vs)=>⟨.undef,.aC (l1.set id (match bW kd ks 0 with|some j=>.map ks (vs.set j d)|none=>.map (ks++[kd]) (vs++[d]))),gZ K ks=true⟩
   |_=>.bad
  else .bad
 |_,_,_,_=>.bad
def ll(E:bN)(t:TypeId)(l:List AO)(x k:T):R:=
 match eU E t,x,k with
 |some (K,_),.map id,.d kd=>
  if K.ok kd=true then
   match l[id]? with
   |some (.map ks vs)=>⟨.d (.aw []),.aC (l.set id (match bW kd ks 0 with|some j=>.map (ks.eraseIdx j) (vs.eraseIdx j)|none=>.map ks vs)),gZ K ks=true⟩
   |_=>.bad
  else .bad
 |_,_,_=>.bad
def rJ(E:bN)(n:Nat)(e:TypeId)(cs:List D):R:=
 if aE E e=1∧(E e).isSome=true∧cs.length=n∧n≤16777216∧cs.all D.one=true then .ok (.d (.slice 1 cs))else .bad
def o7:D→Option Bool
 |.fH=>some true
 |.iface _ _=>some false
 |_=>none
def qm(E:bN)(t:TypeId):Bool:=match E t with
 |some ⟨_,_,_,.iface⟩=>true
 |_=>false
def su(E:bN)(op:BinOp)(ty:TypeId)(y:Operand)(a:D):R:=match y,o7 a with
 |.const .nilIface,some b=>if qm E ty=true then(match op with
  |.eql=>.ok (.d (.bool b))
  |.neq=>.ok (.d (.bool !b))
  |_=>.bad)else .bad
 |_,_=>.bad
def nV(E:bN)(t:TypeId)(x:T):R:=match E t,x with
 |some ⟨_,_,_,.struct _⟩,.d d=>.ok (.d (.iface t d))
 |_,_=>.bad
def evalOp(
      V:Env)(ρ:Operand→T)(l:List AO)(nid:Nat)(o:Oper):R:=
 match o.op with
 |.move x |.assign x=>.ok (typed V.E o.type (ρ x))
 |.pick c a b=>qU (ρ c) (ρ a) (ρ b)
 |.box e x=>⟨.ptr nid 0,.new (.var e (bh (ρ x))),((bh (ρ x)).all T.fh)=true⟩
 |.alloc e=>(match V.E e with|some i=>⟨.ptr nid 0,.new (.var e (i.zero.map fX)),True⟩|none=>.bad)
 |.load t a=>eT V.E t l (unbox (ρ a))
 |.store t a x=>if(bh (ρ x)).length=aE V.E t∧0<aE V.E t then lC l (ρ a) (ρ x)else .bad
 |.fieldAddr s x f=>jq V.E s f (unbox (ρ x))
 |.field s x f=>mX V.E s f (ρ x)
 |.binOp op ty x y _=>(match ρ x,ρ y with |.d a,.d .fH=>su V.E op ty y a |.d a,.d b=>nG (dM V.gJ op ty a b)|_,_=>.bad)
 |.unOp op _ x=>(match ρ x with |.d a=>nG (vH op a)|_=>.bad)
 |.indexAddr t x i=>iQ V.E t l (unbox (ρ x)) (ρ i)
 |.slice t x lo hi none=>(match V.E t,ρ x with
  |some ⟨_,_,_,.slice e⟩,.d (.slice size els)=>if size=aE V.E e∧(V.E e).isSome=true then jI (.d (.slice size els)) (lo.map ρ) (hi.map ρ)else .bad
  |some ⟨_,_,_,.slice e⟩,.row id=>if V.sub=true then mz V.E e l id (lo.map ρ) (hi.map ρ)else(match cC l (.row id)with
   |some (.slice size els,l')=>if size=aE V.E e∧(V.E e).isSome=true then⟨(jI (.d (.slice size els)) (lo.map ρ) (hi.map ρ)).t,.aC l',(jI (.d (.slice size els)) (lo.map ρ) (hi.map ρ)).ob⟩else .bad
   |_=>.bad)
  |some ⟨_,_,_,.array n e⟩,.d (.box (.agg cs))=>if lo.isNone=true∧hi.isNone=true then rJ V.E n e cs else .bad
  |_,_=>.bad)
 |.slice t x lo hi (some mx)=>(match V.E t,ρ x with
  |some ⟨_,_,_,.slice e⟩,.row id=>jJ V.E e l id (lo.map ρ) (hi.map ρ) (ρ mx)
  |_,_=>.bad)
 |.build t j=>(match V.E t with
  |some ⟨_,_,z,.struct fs⟩=>if fs.all (λf=>(V.E f.2).isSome)=true then(match j7 (pg V.E fs) (z.map fX) (j.toList.map λp=>(p.1,ρ p.2))with|some cs=>.ok (eA true cs)|none=>.bad)else .bad
  |some ⟨_,_,z,.array _ e⟩=>if(V.E e).isSome=true then(match j7 (λi=>some (i*aE V.E e,aE V.E e)) (z.map fX) (j.toList.map λp=>(p.1,ρ p.2))with|some cs=>.ok (eA true cs)|none=>.bad)else .bad
  |_=>.bad)
 |.buildSlice t len j=>(match V.E t with
  |some ⟨_,_,_,.slice e⟩=>
   if(
     V.E e).isSome=true∧0<aE V.E e then
    (if len=0 then⟨.row nid,.aC (l++[.row e (aE V.E e) []]),j.toList.isEmpty=true⟩
    else(match j.toList.mapM (λp=>kH (ρ p.2))with
     |some ds=>if j.toList.map (·.1)=List.range len∧len*aE V.E e≤16777216∧ds.all (λd=>d.cells.length == aE V.E e&&d.cells.all D.one)=true then .ok (.d (.slice (aE V.E e) ds))else .bad
     |none=>(match eZ l (j.toList.map λp=>ρ p.2)with
      |some (ds,l')=>if j.toList.map (·.1)=List.range len∧len*aE V.E e≤16777216∧ds.all (λd=>d.cells.length == aE V.E e&&d.cells.all D.one)=true then⟨.d (.slice (aE V.E e) ds),.aC l',True⟩else .bad
      |none=>.bad)))
   else .bad
  |_=>.bad)
 |.extract x i=>(match ρ x with
  |.d (.aw ds)=>(match ds[i]? with|some d=>.ok (.d d)|none=>.bad)
  |.aw ts=>(match ts[i]? with|some t=>.ok t|none=>.bad)
  |_=>.bad)
 |.call c=>(match c.callee with
  |.value f=>(match ρ f with
   |.d (.fn g)=>pV V g l (dZ V.E c.argTypes.toList (c.args.toList.map ρ))
   |.d (.ar g ds)=>pV V g l (dZ V.E c.argTypes.toList (c.args.toList.map ρ)++ds.map .d)
   |_=>.bad)
  |.builtin .len=>(match c.args.toList,c.argTypes.toList with| [x],[t]=>iT V.E t l (ρ x)|_,_=>.bad)
  |.builtin .append=>(match c.args.toList,c.argTypes.toList with
   | [s,x],[t,t']=>if t=t' then iG V.E t l nid (ρ s) (ρ x)else .bad
   |_,_=>.bad)
  |.builtin .clear=>(match c.args.toList,c.argTypes.toList with| [x],[t]=>jV V.E t l (ρ x)|_,_=>.bad)
  |.builtin .delete=>(match c.args.toList,c.argTypes.toList with| [x,k],[t,_]=>ll V.E t l (ρ x) (ρ k)|_,_=>.bad)
  |.builtin .max=>(match c.args.toList.map ρ with| [.d (.int k a),.d (.int B b)]=>if k=B then .ok (.d (.int k (max a b)))else .bad|_=>.bad)
  |.builtin .min=>(match c.args.toList.map ρ with| [.d (.int k a),.d (.int B b)]=>if k=B then .ok (.d (.int k (min a b)))else .bad|_=>.bad)
  |_=>.bad)
 |.makeMap _ none=>⟨.map nid,.aC (l++[.map [] []]),True⟩
 |.makeMap t (some x)=>(match eU V.E t,ρ x with
  |some _,.d (.int _ _)=>⟨.map nid,.aC (l++[.map [] []]),True⟩
  |_,_=>.bad)
 |.mapUpdate t m k x |.insert t m k x=>jw V.E t l (ρ m) (ρ k) (ρ x)
 |.lookup t x k ok=>nu V.E t l (ρ x) (ρ k) ok
 |.index t x i=>nc V.E t (ρ x) (ρ i)
 |.convert F t x=>lQ V.E F t (ρ x)
 |.makeFunc (.func g) first bJ=>if first.isEmpty=true then .ok (kS g (bJ.toList.map ρ))else(match first.toList,bJ.toList with
  | [x],[]=>(match ρ x with |.d d=>.ok (.d (.aa g d))|_=>.bad)
  |_,_=>.bad)
 |.range t x=>u9 V.E t l nid (ρ x)
 |.entry x=>sX l (ρ x)
 |.makeSlice t a b=>kj V.E t l nid (ρ a) (ρ b)
 |.makeInterface t x=>nV V.E t (ρ x)
 |_=>.bad
end Go.af
namespace Go.af
open Go Go.RowKit
variable [aL]
theorem qL{j:Nat}{w w':World}{e:TypeId}{size n:Nat}{v:Value}{xs:List Value}(h:w.ownsRow j e size v n xs)(G:∀b,own v=some b→w'.heap[b]?=w.heap[b]?):w'.ownsRow j e size v n xs:=by
 refine⟨h.1,?_⟩
 rcases h.2 with F| ⟨g,cap,cur,rfl,k,B,rest⟩
 ·exact .inl F
 exact .inr ⟨g,cap,cur,rfl,k,(G g rfl).trans B,rest⟩
theorem cw.tZ{w:World}{I:aq}{B:Nat}{e:TypeId}{size n:Nat}{v:Value}{xs:List Value}{b:Nat}(h:cw w I)(k:w.ownsRow B e size v n xs)(j:own v=some b):¬I.df b:=by
 rcases k.2 with ⟨rfl,_⟩| ⟨g,G,cur,rfl,_,F,_⟩
 ·cases j
 simp only[own,Option.some.injEq]at j
 subst j
 exact h.ig F (by simp)
structure Gq(w w':World)(I J:aq)(m m':Nat→Value)(l l':List AO):Prop where
 stay:∀b u,I.cell b 0=some u→(∀q,bO l q=true→own (m q)≠some b)→w'.heap[b]?=w.heap[b]?∧J.cell b=I.cell b∧J.mp b=I.mp b
 aM:∀q b,bO l' q=true→own (m' q)=some b→(∃q',bO l q'=true∧own (m q')=some b)∨I.cell b 0=none
theorem tC{l:List AO}{id q:Nat}{o:AO}(h:bO (l.set id o) q=true):bO l q=true∨q=id∧o.bO=true:=by
 unfold bO at h⊢
 rw[List.getElem?_set]at h
 by_cases j:id=q
 ·subst j;rw[if_pos rfl]at h
  split at h
  ·exact .inr ⟨rfl,by simpa using h⟩
  simp at h
 rw[if_neg j]at h;exact .inl h
theorem oR{l:List AO}{q:Nat}{o:AO}(h:bO (l++[o]) q=true):q<l.length∧bO l q=true∨q=l.length∧o.bO=true:=by
 unfold bO at h⊢
 rcases Nat.lt_trichotomy q l.length with hq|hq|hq
 ·rw[List.getElem?_append_left hq]at h;exact .inl ⟨hq,h⟩
 ·subst hq;simp at h;exact .inr ⟨rfl,h⟩
 rw[List.getElem?_eq_none (by simp;omega)]at h;simp at h
theorem Gq.set{w w':World}{I:aq}{m:Nat→Value}{l:List AO}{id:Nat}{o':AO}(F:∀b u,I.cell b 0=some u→w'.heap[b]?=w.heap[b]?)(k:o'.bO=true→∀b,own (m id)=some b→I.cell b 0=none):Gq w w' I I m m l (l.set id o'):=
 ⟨λb u G _=>⟨F b u G,rfl,rfl⟩,λq b B j=>(tC B).elim (λh=>.inl ⟨q,h,j⟩) λh=>.inr (k h.2 b (h.1▸j))⟩
theorem Gq.push{w w':World}{I:aq}{m:Nat→Value}{l:List AO}{v:Value}{o':AO}(G:∀b u,I.cell b 0=some u→w'.heap[b]?=w.heap[b]?)(B:o'.bO=false):Gq w w' I I m (λk=>if k=l.length then v else m k) l (l++[o']):=
 ⟨λb u M _=>⟨G b u M,rfl,rfl⟩,λq b F j=>(oR F).elim (λh=>.inl ⟨q,h.2,by simpa [Nat.ne_of_lt h.1]using j⟩) λh=>by rw[B]at h;cases h.2⟩
theorem Gq.id{w:World}{I:aq}{m:Nat→Value}{l l':List AO}(h:∀q,bO l' q=true→bO l q=true):Gq w w I I m m l l':=⟨λ_ _ _ _=>⟨rfl,rfl,rfl⟩,λq b k j=>.inl ⟨q,h q k,j⟩⟩
theorem fY.dD{G:Nat}{w w':World}{I J:aq}{v:Value}{e size:Nat}{els:List D}(ad:∀v d,Rd I v d→Rd J v d)(h:∀b,own v=some b→w'.heap[b]?=w.heap[b]?∧J.cell b=I.cell b∧J.mp b=I.mp b)(k:fY G w I v e size els):fY G w' J v e size els:=by
 obtain⟨xs,U,Y,Z,aa⟩:=k
 refine⟨xs,qL U (λb B=>(h b B).1),Y,λj x y F ae=>ad _ _ (Z j x y F ae),λb B=>?_⟩
 obtain⟨_,M,O⟩:=h b B
 obtain⟨k1,k2,af⟩:=aa b B
 exact⟨O.trans k1,λj x F=>by rw[M];exact k2 j x F,λj ab=>by rw[M];exact af j ab⟩
theorem fY.ou{j:Nat}{w:World}{I:aq}{v:Value}{e size b:Nat}{els:List D}(O:0<size)(M:els≠[])(k:fY j w I v e size els)(G:own v=some b):∃u,I.cell b 0=some u:=by
 obtain⟨xs,B,U,Y,F⟩:=k
 have:0<xs.length:=by rw[B.1];exact Nat.mul_pos (List.length_pos_iff.2 M) O
 exact⟨_,(F b G).2.1 0 _ (List.getElem?_eq_getElem this)⟩
theorem sb.dD{Z:Nat}{w w':World}{I J:aq}{m m':Nat→Value}{l l':List AO}{e size:Nat}{B:ME}{vs:List D}{op:Option Nat}(ai:∀v d,Rd I v d→Rd J v d)(ae:Gq w w' I J m m' l l')(aj:0<size)(al:B.1.size=vs.length)(k:sb Z w I m l e size B vs op):sb Z w' J m' l' e size B vs op:=by
 obtain⟨aa,ab,ag,ad⟩:=k
 have ou:∀i,i<B.1.size→op≠some i→∃u,I.cell (aa i) 0=some u:=λi hi j=>by
  obtain⟨els,_,U,G,Y⟩:=ab i B.1[i] vs[i] j (Array.getElem?_eq_getElem hi) (List.getElem?_eq_getElem (by omega))
  exact Y.ou aj U G
 refine⟨aa,λi en d j af ah=>?_,ag,λq i M hi j F=>?_⟩
 ·obtain⟨els,ak,U,G,Y⟩:=ab i en d j af ah
  refine⟨els,ak,U,G,Y.dD ai λb F=>?_⟩
  rw[G]at F;injection F with F;subst F
  have hi:i<B.1.size:=(Array.getElem?_eq_some_iff.1 af).1
  obtain⟨u,O⟩:=ou i hi j
  exact ae.stay _ u O λq M=>ad q i M hi j
 rcases ae.aM q _ M F with ⟨q',k1,k2⟩|hn
 ·exact ad q' i k1 hi j k2
 obtain⟨u,O⟩:=ou i hi j;rw[O]at hn;cases hn
theorem dh.gm{k:Nat}{w:World}{I:aq}{m m':Nat→Value}{l l':List AO}{v:Value}{e size:Nat}{ks vs:List D}{op:Option Nat}(af:∀q,bO l' q=true→∃j,bO l j=true∧own (m j)=own (m' q))(h:dh k w I m l v (.aU e size ks vs op)):dh k w I m' l' v (.aU e size ks vs op):=by
 obtain⟨b,F,G,M,O,U,Y,Z,aa,ab,ad,B,k1,k2,ai⟩:=h
 refine⟨b,F,G,M,O,U,Y,Z,aa,ab,ad,B,k1,k2,λq i ah hi ag ae=>?_⟩
 obtain⟨j,aj,ak⟩:=af q ah
 exact ai j i aj hi ag (ak.trans ae)
theorem dh.CM{an:Nat}{w w':World}{I J:aq}{m m':Nat→Value}{l l':List AO}{v:Value}{o:AO}(M:Le I m l J m' l')(ag:∀b,own v=some b→w'.heap[b]?=w.heap[b]?)(af:∀b,own v=some b→J.cell b=I.cell b∧J.mp b=I.mp b)(av:o.oS=false)(h:dh an w I m l v o):dh an w' J m' l' v o:=by
 cases o with
 |aU e size ks vs op=>cases av
 |dead=>trivial
 |var ty cs=>
  obtain⟨b,vs,rfl,U,Y,G,B,ab⟩:=h
  refine⟨b,vs,rfl,U,(ag b rfl).trans Y,G,λi x t ah ar=>⟨(B i x t ah ar).1.mono M,(B i x t ah ar).2⟩,?_⟩
  obtain⟨F,O⟩:=af b rfl
  exact⟨λo=>by rw[F];exact ab.1 o,O.trans ab.2⟩
 |row e size els=>
  obtain⟨xs,U,Y,G,B⟩:=h
  refine⟨xs,qL U ag,Y,λj x y ah al=>(G j x y ah al).mono M.cB,λb aj=>?_⟩
  obtain⟨F,O⟩:=af b aj
  exact⟨λo=>by rw[F];exact(B b aj).1 o,O.trans (B b aj).2⟩
 |aM e size els=>
  obtain⟨xs,U,Y,G,B⟩:=h
  refine⟨xs,qL U ag,Y,λj x y ah al=>(G j x y ah al).mono M.cB,λb aj=>?_⟩
  obtain⟨F,O⟩:=af b aj
  obtain⟨k1,k2,ax⟩:=B b aj
  exact⟨O.trans k1,λj x ah=>by rw[F];exact k2 j x ah,λj au=>by rw[F];exact ax j au⟩
 |map ks vs=>
  obtain⟨b,ai,rfl,U,Y,G,B,ab,ad,ae⟩:=h
  obtain⟨F,O⟩:=af b rfl
  exact⟨b,ai,rfl,U,MapAt.to (ag b rfl) Y,G,B,λi e d aa Z=>(ab i e d aa Z).mono M.cB,λi e d aa Z=>(ad i e d aa Z).mono M.cB,λo=>by rw[F];exact ae.1 o,O.trans ae.2⟩
 |cU ks vs=>
  obtain⟨b,ai,rfl,U,Y,G,B,ab,ad,ae,ak⟩:=h
  obtain⟨F,O⟩:=af b rfl
  exact⟨b,ai,rfl,U,MapAt.to (ag b rfl) Y,G,B,λi e d aa Z=>(ab i e d aa Z).mono M.cB,λi e d aa Z=>(ad i e d aa Z).mono M.cB,λo=>by rw[F];exact ae o,O.trans ak⟩
 |iter ks vs done=>
  obtain⟨b,ay,ai,seen,rfl,U,Y,G,B,ab,ad,ae,ak,ao⟩:=h
  obtain⟨F,O⟩:=af b rfl
  exact⟨b,ay,ai,seen,rfl,U,(ag b rfl).trans Y,⟨λr aw=>M.cB.mp _ _ (G.1 r aw),G.2⟩,B,ab,λi e d aa Z=>(ad i e d aa Z).mono M.cB,λi e d aa Z=>(ae i e d aa Z).mono M.cB,ak,λo=>by rw[F];exact ao.1 o,O.trans ao.2⟩
 |bD ks ts=>
  obtain⟨b,ai,rfl,U,Y,G,B,ab,ad,ae⟩:=h
  obtain⟨F,O⟩:=af b rfl
  exact⟨b,ai,rfl,U,MapAt.to (ag b rfl) Y,G,B,λi e d aa Z=>(ab i e d aa Z).mono M.cB,λi e d aa Z=>(ad i e d aa Z).mono M,λo=>by rw[F];exact ae.1 o,O.trans ae.2⟩
 |frame base vals t=>exact⟨h.1,Nat.le_trans h.2.1 M.len,λk=>(h.2.2 k).mono (M.take base)⟩
 |loop base n ps aP body t st cP=>
  obtain⟨b,r,rfl,U,Y,G,B,ab,ad⟩:=h
  obtain⟨F,O⟩:=af b rfl
  exact⟨b,r,rfl,U,(ag b rfl).trans Y,G,Nat.le_trans B M.len,λk=>(ab k).mono (M.take base),λo=>by rw[F];exact ad.1 o,O.trans ad.2⟩
theorem dh.dD{F:Nat}{w w':World}{I J:aq}{m m':Nat→Value}{l l':List AO}{v:Value}{o:AO}(j:Le I m l J m' l')(Z:∀b,own v=some b→w'.heap[b]?=w.heap[b]?)(U:∀b,own v=some b→J.cell b=I.cell b∧J.mp b=I.mp b)(ak:Gq w w' I J m m' l l')(h:dh F w I m l v o):dh F w' J m' l' v o:=by
 cases Y:o.oS with
 |false=>exact h.CM j Z U Y
 |true=>
  cases o with
  |aU e size ks vs op=>
   obtain⟨b,ad,rfl,ae,af,ag,G,ah,ai,M,O,aj⟩:=h
   obtain⟨aa,ab⟩:=U b rfl
   exact⟨b,ad,rfl,ae,MapAt.to (Z b rfl) af,ag,G,λi e d B k=>(ah i e d B k).mono j.cB,λi e d B k=>(ai i e d B k).mono j.cB,⟨λo=>by rw[aa];exact M.1 o,ab.trans M.2⟩,O,aj.dD (λ_ _ h=>h.mono j.cB) ak O G⟩
  |_=>cases Y
theorem dh.lt{U:Nat}{w:World}{I:aq}{m:Nat→Value}{l:List AO}{v:Value}{o:AO}(h:dh U w I m l v o)(Z:o ≠ .dead){b:Nat}(j:own v=some b):b<w.heap.size∧U≤b:=by
 cases o with
 |dead=>exact absurd rfl Z
 |var ty cs=>
  obtain⟨F,vs,rfl,k,B,_⟩:=h
  simp only[own,Option.some.injEq]at j
  subst j
  exact⟨(Array.getElem?_eq_some_iff.1 B).1,k⟩
 |row e size els=>
  obtain⟨xs,k,_⟩:=h
  rcases k.2 with ⟨rfl,_⟩| ⟨g,Y,cur,rfl,M,O,_⟩
  ·simp[own]at j
  simp only[own,Option.some.injEq]at j
  subst j
  exact⟨(Array.getElem?_eq_some_iff.1 O).1,M⟩
 |aM e size els=>
  obtain⟨xs,k,_⟩:=h
  rcases k.2 with ⟨rfl,_⟩| ⟨g,Y,cur,rfl,M,O,_⟩
  ·simp[own]at j
  simp only[own,Option.some.injEq]at j
  subst j
  exact⟨(Array.getElem?_eq_some_iff.1 O).1,M⟩
 |map ks vs=>
  obtain⟨F,G,rfl,k,B,_⟩:=h
  simp only[own,Option.some.injEq]at j
  subst j
  exact⟨(Array.getElem?_eq_some_iff.1 B.1).1,k⟩
 |cU ks vs=>
  obtain⟨F,G,rfl,k,B,_⟩:=h
  simp only[own,Option.some.injEq]at j
  subst j
  exact⟨(Array.getElem?_eq_some_iff.1 B.1).1,k⟩
 |iter ks vs done=>
  obtain⟨F,aa,G,seen,rfl,k,B,_⟩:=h
  simp only[own,Option.some.injEq]at j
  subst j
  exact⟨(Array.getElem?_eq_some_iff.1 B).1,k⟩
 |aU e size ks vs op=>
  obtain⟨F,G,rfl,k,B,_⟩:=h
  simp only[own,Option.some.injEq]at j
  subst j
  exact⟨(Array.getElem?_eq_some_iff.1 B.1).1,k⟩
 |bD ks ts=>
  obtain⟨F,G,rfl,k,B,_⟩:=h
  simp only[own,Option.some.injEq]at j
  subst j
  exact⟨(Array.getElem?_eq_some_iff.1 B.1).1,k⟩
 |frame base vals t=>rw[h.1]at j;cases j
 |loop base n ps aP body t st cP=>
  obtain⟨F,r,rfl,k,B,_⟩:=h
  simp only[own,Option.some.injEq]at j
  subst j
  exact⟨(Array.getElem?_eq_some_iff.1 B).1,k⟩
theorem dh.Am{G:Nat}{w:World}{I:aq}{m:Nat→Value}{l:List AO}{v:Value}{o:AO}(h:dh G w I m l v o)(Z:o ≠ .dead){b:Nat}(j:own v=some b):o.bO=true∨I.cell b 0=none:=by
 cases o with
 |dead=>exact absurd rfl Z
 |aM e size els=>exact .inl rfl
 |row e size els=>obtain⟨xs,_,_,_,M⟩:=h;exact .inr ((M b j).1 0)
 |frame base vals t=>rw[h.1]at j;cases j
 |var ty cs=>obtain⟨B,vs,rfl,_,_,_,_,O⟩:=h;injection j with j;subst j;exact .inr (O.1 0)
 |map ks vs=>obtain⟨B,F,rfl,_,_,_,_,_,_,k⟩:=h;injection j with j;subst j;exact .inr (k.1 0)
 |cU ks vs=>obtain⟨B,F,rfl,_,_,_,_,_,_,k,_⟩:=h;injection j with j;subst j;exact .inr (k 0)
 |iter ks vs done=>obtain⟨B,aa,F,seen,rfl,_,_,_,_,_,_,_,_,Y⟩:=h;injection j with j;subst j;exact .inr (Y.1 0)
 |aU e size ks vs op=>obtain⟨B,F,rfl,_,_,_,_,_,_,k,_⟩:=h;injection j with j;subst j;exact .inr (k.1 0)
 |bD ks ts=>obtain⟨B,F,rfl,_,_,_,_,_,_,k⟩:=h;injection j with j;subst j;exact .inr (k.1 0)
 |loop base n ps aP body t st cP=>obtain⟨B,r,rfl,_,_,_,_,_,U⟩:=h;injection j with j;subst j;exact .inr (U.1 0)
theorem dh.ig{O:Nat}{w:World}{I:aq}{m:Nat→Value}{l:List AO}{v:Value}{o:AO}(h:dh O w I m l v o)(F:cw w I)(U:o ≠ .dead){b:Nat}(j:own v=some b):¬I.df b:=by
 cases o with
 |dead=>exact absurd rfl U
 |var ty cs=>
  obtain⟨G,vs,rfl,B,k,_⟩:=h
  simp only[own,Option.some.injEq]at j
  subst j
  exact F.ig k (by simp)
 |row e size els=>obtain⟨xs,B,_⟩:=h;exact F.tZ B j
 |aM e size els=>obtain⟨xs,B,_⟩:=h;exact F.tZ B j
 |map ks vs=>
  obtain⟨G,M,rfl,B,k,_⟩:=h
  simp only[own,Option.some.injEq]at j
  subst j
  exact F.ig k.1 (by simp)
 |cU ks vs=>
  obtain⟨G,M,rfl,B,k,_⟩:=h
  simp only[own,Option.some.injEq]at j
  subst j
  exact F.ig k.1 (by simp)
 |iter ks vs done=>
  obtain⟨G,Y,M,seen,rfl,B,k,_⟩:=h
  simp only[own,Option.some.injEq]at j
  subst j
  exact F.ig k (by simp)
 |aU e size ks vs op=>
  obtain⟨G,M,rfl,B,k,_⟩:=h
  simp only[own,Option.some.injEq]at j
  subst j
  exact F.ig k.1 (by simp)
 |bD ks ts=>
  obtain⟨G,M,rfl,B,k,_⟩:=h
  simp only[own,Option.some.injEq]at j
  subst j
  exact F.ig k.1 (by simp)
 |frame base vals t=>rw[h.1]at j;cases j
 |loop base n ps aP body t st cP=>
  obtain⟨G,r,rfl,B,k,_⟩:=h
  simp only[own,Option.some.injEq]at j
  subst j
  exact F.ig k (by simp)
theorem bg{l:List AO}{id:Nat}:alive l id=true↔∃o,l[id]?=some o∧o ≠ .dead:=by
 unfold alive isVar isRow
 cases h:l[id]? with
 |none=>simp
 |some o=>cases o<;>simp[AO.isVar,AO.isRow]
section
variable {w0 w w':World}{I0 I J:aq}{m:Nat→Value}{l:List AO}
theorem av.call(h:av w0 I0 w I m l)(F:cm w.heap.size w w')(B:eE w.heap.size I J)(Z:cw w' J):av w0 I0 w' J m l∧Le I m l J m l:=by
 have U:Le I m l J m l:=⟨B.le (λb j=>h.sat.gE j),Nat.le_refl _,λ_ _ k=>⟨k,rfl⟩,λ_ _ k=>⟨k,rfl⟩,λ_ _ _ els _ k=>⟨els,k⟩⟩
 refine⟨⟨h.below.trans (F.mono h.below.size),Z,h.ext.trans B h.below.size,λid o M=>?_,h.sep⟩,U⟩
 by_cases j:o=.dead
 ·subst j;trivial
 exact(h.obj id o M).dD U (λb G=>F.block b ((h.obj id o M).lt j G).1) (λb G=>⟨B.cell b ((h.obj id o M).lt j G).1,B.mp b ((h.obj id o M).lt j G).1⟩) ⟨λb u O _=>⟨F.block b (h.sat.lt O),B.cell b (h.sat.lt O),B.mp b (h.sat.lt O)⟩,λq b Y F=>.inl ⟨q,Y,F⟩⟩
def aC(m:Nat→Value)(id:Nat)(v:Value):Nat→Value:=λk=>if k=id then v else m k
theorem cD(m:Nat→Value)(id:Nat)(v:Value):aC m id v id=v:=by simp[aC]
theorem bq(m:Nat→Value){id k:Nat}(v:Value)(h:k≠id):aC m id v k=m k:=by simp[aC,h]
theorem Le.new{nid:Nat}{o:AO}{v:Value}(M:l[nid]?=some .dead)(O:o.isRow=false):Le I m l I (aC m nid v) (l.set nid o):=by
 have B:∀id,id≠nid→(l.set nid o)[id]?=l[id]?:=λid h=>by rw[List.getElem?_set];simp[Ne.symm h]
 have U:nid<l.length:=(List.getElem?_eq_some_iff.1 M).1
 have F:(l.set nid o)[nid]?=some o:=by rw[List.getElem?_set];simp[U]
 refine⟨.refl I,by simp,λid G k=>?_,λid G j=>?_,λid e size els G hh=>?_⟩
 ·have:id≠nid:=by rintro rfl;unfold isVar at k;rw[M]at k;simp[AO.isVar]at k
  refine⟨?_,bq m v this⟩
  unfold isVar;rw[B id this];exact k
 ·by_cases h:id=nid
  ·subst h;unfold isRow at j;rw[F]at j;simp[O]at j
  refine⟨?_,bq m v h⟩
  unfold isRow at j⊢;rw[B id h]at j;exact j
 by_cases h:id=nid
 ·subst h;rw[F]at hh;rcases hh with hh|hh<;>(injection hh with hh;subst hh;simp[AO.isRow]at O)
 rw[B id h]at hh;exact⟨els,hh⟩
theorem av.alloc(h:av w0 I0 w I m l)(ob:Obj){nid:Nat}{o:AO}{v:Value}(ah:l[nid]?=some .dead)(ar:o.isRow=false)(aj:own v=some w.heap.size)(au:dh w0.heap.size (w.alloc ob) I (aC m nid v) (l.set nid o) v o):av w0 I0 (w.alloc ob) I (aC m nid v) (l.set nid o):=by
 have ao:Le I m l I (aC m nid v) (l.set nid o):=Le.new ah ar
 have aq:nid<l.length:=(List.getElem?_eq_some_iff.1 ah).1
 have af:(l.set nid o)[nid]?=some o:=by rw[List.getElem?_set];simp[aq]
 have Z:∀id,id≠nid→(l.set nid o)[id]?=l[id]?:=λid h=>by rw[List.getElem?_set];simp[Ne.symm h]
 have ai:∀id,id≠nid→alive (l.set nid o) id=true→∀b,own (m id)=some b→b<w.heap.size:=by
  intro id U al b M
  obtain⟨o',k,B⟩:=bg.1 al
  rw[Z id U]at k
  exact((h.obj id o' k).lt B M).1
 refine⟨h.below.alloc h.below.size ob,⟨λb o' u O=>?_,λb ak O=>?_,λb B=>(Below.heap_alloc w ob b (h.sat.gE B)).trans (h.sat.df b B),h.sat.c9⟩,h.ext,λid o' k=>?_,λi j b Y hi ag F G=>?_⟩
 ·rw[World.cell?_alloc_lt w ob _ (h.sat.lt O)];exact h.sat.cell b o' u O
 ·have an:=h.sat.mp b ak O
  exact MapAt.to (Below.heap_alloc w ob b (h.sat.jv O)) an
 ·by_cases U:id=nid
  ·subst U;rw[af]at k;injection k with k;subst k;rw[cD];exact au
  rw[Z id U]at k;rw[bq m v U]
  by_cases B:o'=.dead
  ·subst B;trivial
  exact(h.obj id o' k).dD ao (λb M=>Below.heap_alloc w ob b ((h.obj id o' k).lt B M).1) (λb _=>⟨rfl,rfl⟩) ⟨λb u aw _=>⟨Below.heap_alloc w ob b (h.sat.lt aw),rfl,rfl⟩,λq b aa M=>by
   by_cases ae:q=nid
   ·subst ae;unfold bO at aa;rw[af]at aa
    cases o<;>simp_all [AO.bO,AO.isRow]
   rw[bq m v ae]at M;unfold bO at aa;rw[Z q ae]at aa;exact .inl ⟨q,aa,M⟩⟩
 by_cases ab:i=nid
 ·subst ab;rw[cD]at F;rw[bq m v (Ne.symm Y)]at G
  rw[aj]at F;injection F with F
  have:=ai j (Ne.symm Y) ag b G;omega
 by_cases ad:j=nid
 ·subst ad;rw[cD]at G;rw[bq m v Y]at F
  rw[aj]at G;injection G with G
  have:=ai i Y hi b F;omega
 rw[bq m v ab]at F;rw[bq m v ad]at G
 refine h.sep i j b Y ?_ ?_ F G
 ·obtain⟨o',k,B⟩:=bg.1 hi;rw[Z i ab]at k;exact bg.2 ⟨o',k,B⟩
 obtain⟨o',k,B⟩:=bg.1 ag;rw[Z j ad]at k;exact bg.2 ⟨o',k,B⟩
theorem av.push(h:av w0 I0 w I m l):av w0 I0 w I m (l++[.dead])∧Le I m l I m (l++[.dead]):=by
 have G:∀id,id<l.length→(l++[AO.dead])[id]?=l[id]?:=λid B=>List.getElem?_append_left B
 have M:∀(id:Nat) o,(l++[AO.dead])[id]?=some o→o=AO.dead∨l[id]?=some o:=by
  intro id o k
  rcases Nat.lt_trichotomy id l.length with hl|hl|hl
  ·rw[G id hl]at k;exact .inr k
  ·subst hl;simp at k;exact .inl k.symm
  rw[List.getElem?_eq_none (by simp;omega)]at k;cases k
 have aa:Le I m l I m (l++[.dead]):=by
  refine⟨.refl I,by simp,λid B ab=>⟨?_,rfl⟩,λid B O=>⟨?_,rfl⟩,λid e size els B Z=>⟨els,?_⟩⟩
  ·unfold isVar at ab⊢;rw[G id B];exact ab
  ·unfold isRow at O⊢;rw[G id B]at O;exact O
  rw[G id B]at Z;exact Z
 have U:∀id,alive (l++[AO.dead]) id=true→alive l id=true:=by
  intro id ad
  obtain⟨o,k,Y⟩:=bg.1 ad
  rcases M id o k with he|he
  ·exact absurd he Y
  exact bg.2 ⟨o,he,Y⟩
 refine⟨⟨h.below,h.sat,h.ext,λid o k=>?_,λi j b ae hi af=>h.sep i j b ae (U i hi) (U j af)⟩,aa⟩
 rcases M id o k with rfl|he
 ·trivial
 exact(h.obj id o he).dD aa (λ_ _=>rfl) (λ_ _=>⟨rfl,rfl⟩) (Gq.id λq F=>by
  unfold bO at F⊢
  cases k:(l++[AO.dead])[q]? with
  |none=>simp[k]at F
  |some o=>
   rcases M q o k with rfl|h
   ·simp[k,AO.bO]at F
   rw[k]at F;rw[h];exact F)
end
end Go.af
namespace Go.af
open Go Go.RowKit
variable [aL]
def fC(P:Program)(t:TypeId):TD→Bool
 |.fI=>match P.underlying t with|some (.struct _)|some (.array _ _)|none=>false|_=>true
 |.cA k=>match P.underlying t with|some (.int B)=>k == B|_=>false
 |.string=>match P.underlying t with|some .string=>true|_=>false
 |.slice e=>match P.underlying t with|some (.slice j)=>e == j|_=>false
 |.struct fs=>match P.underlying t with|some (.struct gs)=>decide (fs=gs.toList.map λf=>(f.offset,f.type))&&(!Al fs||(gs.toList.all (λg=>g.name != "_") && !P.stoodInHeld t))|_=>false
 |.array n e=>match P.underlying t with|some (.array F j)=>n == F&&e == j|_=>false
 |.map k e=>match P.underlying t with|some (.map B j)=>k == B&&e == j|_=>false
 |.iface=>match P.underlying t with|some (.interface _)=>true|_=>false
def eL:List Value→List D→Bool
 | [],[]=>true
 |v::vs,d::ds=>lG v d&&eL vs ds
 |_,_=>false
def gY:Value→Bool
 |.agg _=>true
 |_=>false
def rN(P:Program)(t:TypeId)(i:TI):Bool:=
 match P.info? t with
 |some x=>x.size == i.size&&x.bytes == i.bytes&&(match x.zero with|some z=>eL z.cells.toList i.zero&&(gY z == i.desc.agg)|none=>false)&&fC P t i.desc&&decide (i.zero.length=i.size)
 |none=>false
def bw(P:Program)(E:bN):Prop:=∀t i,E t=some i→rN P t i=true
def jh(P:Program)(f:FuncId)(ds:List D)(r:D):Prop:=
 ∀(w:World)(I:aq)(vs:Array Value),cw w I→vs.size=ds.length→(∀(i:Nat) v d,vs[i]?=some v→ds[i]?=some d→Rd I v d) →
  Calls P f vs w λe w'=>∃v J,e=.returned v∧cm w.heap.size w w'∧eE w.heap.size I J∧cw w' J∧Rd J v r
def Enters(P:Program)(f:FuncId):Prop:=∀(j:Array Value)(w:World),(callFunc f j).run P w=.ok (.enter f j) w
def JA(P:Program)(C:vQ):Prop:=∀f ds r ob,C f ds=some (r,ob)→ob→Enters P f∧jh P f ds r
def mJ(P:Program)(g:FuncId)(ts:List T)(l:List AO)(t:T)(l':List AO):Prop:=
 ∀(w0:World)(I0:aq)(w:World)(I:aq)(m:Nat→Value)(j:Array Value),av w0 I0 w I m l→j.size=ts.length→(∀(i:Nat) v x,j[i]?=some v→ts[i]?=some x→ah I m l v x) →
  Calls P g j w λe w'=>∃v,e=.returned v∧∃J m',Le I m l J m' l'∧av w0 I0 w' J m' l'∧ah J m' l' v t
def JB(P:Program)(F:Az):Prop:=∀g ts l r,F g ts l=some r→r.ob→Enters P g∧mJ P g ts l r.t r.l
def AE(P:Program)(g:FuncId)(ts:List T)(l:List AO)(K:T→List AO→Prop):Prop:=
 Enters P g∧∀(w0:World)(I0:aq)(w:World)(I:aq)(m:Nat→Value)(j:Array Value)(vals:Nat→Value)(ft:Tm),av w0 I0 w I m l→j.size=ts.length→(∀(i:Nat) v x,j[i]?=some v→ts[i]?=some x→ah I m l v x)→(∀k,ah I m l (vals k) (get ft k)) →
  Calls P g j w λe w'=>∃v,e=.returned v∧∃t l' J m',K t l'∧av w0 I0 w' J m' l'∧ah J m' l' v t∧(∀b,I.df b→J.df b)∧∀k,ah J m' l' (vals k) (get ft k)
def mH(P:Program)(gJ:TypeId→Option (List Lf)):Prop:=∀t ls,gJ t=some ls→∀(op:BinOp)(x y:Operand)(I:aq)(u v:Value)(a b:D)(w:World),Rd I u a→Rd I v b →
 ((∃p q,a=.bool p∧b=.bool q∧ls=[.bool])∨∃xs ys,a=.agg xs∧b=.agg ys∧ls≠[.bool]∧eS ls xs=true∧eS ls ys=true)→(op=.eql∨op=.neq) →
 ((do eqGuard op t x y u v;binOp op t u v:Sem Value)).run P w=.ok (.bool (if op=.eql then jl a b else !(jl a b))) w
structure ga(P:Program)(V:Env):Prop where
 E:bw P V.E
 C:JA P V.C
 eq:mH P V.gJ
 F:JB P V.F
 prog:V.P=P
def bI(P:Program)(r:Result Next)(Q:Value→World→Prop):Prop:=
 match r with
 |.ok (.value v) w'=>Q v w'
 |.ok .skip w'=>Q undef w'
 |.ok (.enter f args) w'=>Calls P f args w' λe j=>∃v,e=.returned v∧Q v j
 |_=>False
theorem bI.mono{P:Program}{r:Result Next}{Q Q':Value→World→Prop}(h:bI P r Q)(j:∀v w,Q v w→Q' v w):bI P r Q':=by
 unfold bI at *
 split at h
 ·exact j _ _ h
 ·exact j _ _ h
 ·exact h.mono λe w ⟨v,k,B⟩=>⟨v,k,j _ _ B⟩
 exact h.elim
class bu where
 r:Option Nat
 dD:Nat→Prop
def ec[bu]:Fence:={Fence.wide with round:=bu.r}
theorem oi[bu](f:FuncId):ec.fn f:=trivial
theorem wb[bu]{P:Program}{f:FuncId}{j:Array Value}{w:World}{R:Ending→World→Prop}(h:Calls P f j w R)(n:Nat):CallsIn ec n P f j w R:=by
 unfold ec
 cases bu.r with
 |none=>exact(callsIn_wide (n:=n)).2 h
 |some l=>exact CallsIn.inRound l ((callsIn_wide (n:=n)).2 h)
theorem bI.wpIn[bu]{P:Program}{o:Oper}{a:Act}{w:World}{K:Act→World→Prop}{Q:Exit→Act→World→Prop}(B:∀c,o.op ≠ .defer c)(h:bI P ((execOp a.eval o).run P w) λv w'=>K (a.put o.dst v) w'):o.wpIn ec 0 P a w K Q:=by
 unfold Oper.wpIn
 refine⟨λ_ _=>oi _,?_⟩
 rw[Oper.semAt_eq _ _ _ B]
 generalize (execOp a.eval o).run P w=r at *
 unfold bI at h
 split at h
 ·exact h
 ·exact h
 ·simp only[Oper.uponIn]
  refine⟨λh=>by simp[ec,Fence.wide]at h,wb (h.mono λe w j=>?_) _⟩
  obtain⟨v,k,j⟩:=j
  subst k;exact j
 exact h.elim
section types
variable {P:Program}{E:bN}{t:TypeId}{i:TI}
theorem dz(h:rN P t i=true):∃x z,P.info? t=some x∧x.size=i.size∧x.bytes=i.bytes∧x.zero=some z∧eL z.cells.toList i.zero=true∧gY z=i.desc.agg∧fC P t i.desc=true∧i.zero.length=i.size:=by
 unfold rN at h
 cases B:P.info? t with
 |none=>simp[B]at h
 |some x=>
  simp only[B,Bool.and_eq_true,beq_iff_eq,decide_eq_true_eq]at h
  obtain⟨⟨⟨⟨F,G⟩,j⟩,M⟩,O⟩:=h
  cases k:x.zero with
  |none=>simp[k]at j
  |some z=>
   simp only[k,Bool.and_eq_true,beq_iff_eq]at j
   exact⟨x,z,rfl,F,G,k,j.1,j.2,M,O⟩
theorem gL(hE:bw P E)(h:E t=some i)(w:World):(sizeOf t).run P w=.ok i.size w:=by
 obtain⟨x,z,j,k,_⟩:=dz (hE t i h)
 simp[sizeOf,typeInfo,j,k]
theorem rE(hE:bw P E)(h:E t=some i)(w:World):∃z,(zeroValue t).run P w=.ok z w∧eL z.cells.toList i.zero=true∧gY z=i.desc.agg∧i.zero.length=i.size:=by
 obtain⟨x,z,j,M,O,k,B,F,U,G⟩:=dz (hE t i h)
 exact⟨z,by simp[zeroValue,typeInfo,j,k],B,F,G⟩
theorem fV(hE:bw P E){s b:Nat}{z:List D}{e:TypeId}(h:E t=some ⟨s,b,z,.slice e⟩):P.underlying t=some (.slice e):=by
 obtain⟨x,Z,F,G,M,O,U,Y,j,_⟩:=dz (hE t _ h)
 simp only[fC]at j
 split at j
 ·rename_i B k;simp at j;subst j;exact k
 cases j
theorem vK(hE:bw P E){s b:Nat}{z:List D}(h:E t=some ⟨s,b,z,.string⟩):P.underlying t=some .string:=by
 obtain⟨x,U,k,B,F,G,M,O,j,_⟩:=dz (hE t _ h)
 simp only[fC]at j
 split at j
 ·assumption
 cases j
theorem vJ(hE:bw P E){s b n:Nat}{z:List D}{e:TypeId}(h:E t=some ⟨s,b,z,.array n e⟩):P.underlying t=some (.array n e):=by
 obtain⟨x,aa,F,G,M,O,U,Y,j,_⟩:=dz (hE t _ h)
 simp only[fC]at j
 split at j
 ·rename_i Z B k;simp at j;obtain⟨rfl,rfl⟩:=j;exact k
 cases j
theorem Aj(hE:bw P E){s b:Nat}{z:List D}{fs:List (Nat×TypeId)}(h:E t=some ⟨s,b,z,.struct fs⟩):∃k,P.underlying t=some (.struct k)∧fs=k.toList.map λf=>(f.offset,f.type):=by
 obtain⟨x,Z,F,G,M,O,U,Y,j,_⟩:=dz (hE t _ h)
 simp only[fC]at j
 split at j
 ·rename_i k B;simp only[Bool.and_eq_true]at j;exact⟨k,B,of_decide_eq_true j.1⟩
 cases j
theorem Uk(hE:bw P E){s b:Nat}{z:List D}{fs:List (Nat×TypeId)}(h:E t=some ⟨s,b,z,.struct fs⟩)(G:Al fs=true):∃k,P.underlying t=some (.struct k)∧fs=k.toList.map (λf=>(f.offset,f.type))∧(∀g∈k.toList,g.name ≠ "_")∧P.stoodInHeld t=false:=by
 obtain⟨x,ab,M,O,U,Y,Z,aa,j,_⟩:=dz (hE t _ h)
 simp only[fC]at j
 split at j
 ·rename_i k B
  rw[G]at j
  simp only[Bool.not_true,Bool.false_or,Bool.and_eq_true,Bool.not_eq_true']at j
  exact⟨k,B,of_decide_eq_true j.1,λg F=>by have:=List.all_eq_true.1 j.2.1 g F;simpa using this,j.2.2⟩
 cases j
theorem Ic(hE:bw P E)(h:E t=some i)(w:World):(isAgg t).run P w=.ok i.desc.agg w:=by
 obtain⟨x,Z,F,G,M,O,U,Y,B,_⟩:=dz (hE t _ h)
 unfold isAgg
 cases k:P.underlying t with
 |none=>cases j:i.desc<;>simp[j,fC,k]at B
 |some d=>cases j:i.desc<;>cases d<;>simp[j,fC,k]at B<;>simp[run_underlying k,TD.agg]
end types
theorem Aw(I:aq){v:Value}{d:D}(h:lG v d=true):Rd I v d∧d.one=true:=by
 unfold lG at h
 split at h
 all_goals first| (cases h;done)|skip
 all_goals try simp only[Bool.and_eq_true,beq_iff_eq]at h
 ·subst h;exact⟨.bool _,rfl⟩
 ·obtain⟨rfl,rfl⟩:=h;exact⟨.int _ _,rfl⟩
 ·have:=ByteArray.ext h;subst this;exact⟨.str _,rfl⟩
 ·exact⟨.iz _ _ _ (Nat.zero_le _),rfl⟩
 ·exact⟨.ch,rfl⟩
 ·exact⟨.oX,rfl⟩
 ·exact⟨.eV,rfl⟩
 exact⟨.fH,rfl⟩
theorem lH(I:aq):∀(vs:List Value)(ds:List D),eL vs ds=true→vs.length=ds.length∧(∀d∈ds,d.one=true)∧∀(i:Nat) v d,vs[i]?=some v→ds[i]?=some d→Rd I v d
 | [],[],_=>⟨rfl,by simp,by simp⟩
 |v::vs,d::ds,h=>by
  simp only[eL,Bool.and_eq_true]at h
  obtain⟨B,F,G⟩:=lH I vs ds h.2
  obtain⟨k1,k2⟩:=Aw I h.1
  refine⟨by simp[B],by simp[k2];exact F,λi x y j k=>?_⟩
  rcases i with _|i
  ·simp at j k;subst j;subst k;exact k1
  simp at j k;exact G i x y j k
 | [],_::_,h=>by simp[eL]at h
 |_::_,[],h=>by simp[eL]at h
end Go.af
namespace Go.af
open Go Go.RowKit
variable [aL]
def ep(l L:List AO):Prop:=∀(id:Nat),id<l.length→L[id]?=l[id]?
theorem ep.refl(l:List AO):ep l l:=λ_ _=>rfl
theorem ep.get{l L:List AO}(h:ep l L){id:Nat}{o:AO}(j:l[id]?=some o):L[id]?=some o:=(h id (List.getElem?_eq_some_iff.1 j).1).trans j
theorem Rd.DD{I:aq}{v:Value}{d:D}(h:Rd I v d)(j:v.oneCell'=true):d.one=true:=by
 cases h<;>simp_all [D.one,Value.oneCell']
theorem HN{I:aq}{m:Nat→Value}{L:List AO}{v:Value}{t:T}{x:D}(h:ah I m L v t)(j:kH t=some x):Rd I v x:=by
 cases h<;>simp[kH]at j
 ·subst j;assumption
 subst j;exact .iz _ _ _ (Nat.zero_le _)
theorem HM{I:aq}{m:Nat→Value}{L:List AO}:∀(vs:List Value)(ts:List T)(ds:List D),ts.mapM kH=some ds→vs.length=ts.length→(∀(i:Nat) v t,vs[i]?=some v→ts[i]?=some t→ah I m L v t) →
  vs.length=ds.length∧∀(i:Nat) v d,vs[i]?=some v→ds[i]?=some d→Rd I v d
 | [],[],ds,h,_,_=>by simp at h;subst h;simp
 |v::vs,t::ts,ds,h,j,F=>by
  simp only[List.mapM_cons,Option.bind_eq_bind,Option.bind_eq_some_iff,Option.pure_def,Option.some.injEq]at h
  obtain⟨x,Y,xs,Z,rfl⟩:=h
  obtain⟨G,M⟩:=HM vs ts xs Z (by simpa using j) (λi v t U O=>F (i+1) v t (by simpa using U) (by simpa using O))
  refine⟨by simp[G],λi u d B k=>?_⟩
  rcases i with _|i
  ·simp at B k;subst B;subst k
   exact HN (F 0 v t rfl rfl) Y
  simp at B k;exact M i u d B k
 | [],_::_,_,_,j,_=>by simp at j
 |_::_,[],_,_,j,_=>by simp at j
theorem vz{P:Program}{E:bN}{t:TypeId}{i:TI}(hE:bw P E)(h:E t=some i)(B:i.desc.agg=false):i.size=1:=by
 obtain⟨x,z,F,G,M,O,j,k,U,Y⟩:=dz (hE t i h)
 rw[B]at k
 have Z:z.cells.toList.length=1:=by cases z<;>simp_all [gY,Value.cells]
 have:=(lH (I:=⟨λ_ _=>none,λ_=>none,λ_=>False⟩) _ _ j).1
 omega
theorem Ie{P:Program}{E:bN}{t:TypeId}{i:TI}(hE:bw P E)(h:E t=some i)(w:World)(b o:Nat)(cs:List Value)(B:cs.length=i.size)(G:w.rangeAt b o cs) :
  (Instr.loadAt t (.pointer (some ⟨b,o,none⟩))).run P w=.ok (if i.desc.agg then .agg cs.toArray else cs.headD undef) w:=by
 have F:=Ic hE h
 have hS:=gL hE h
 cases k:i.desc.agg with
 |true=>
  have U:(loadCells ⟨b,o,none⟩ cs.length).run P w=.ok cs.toArray w:=
   run_loadCells_list (P:=P) w ⟨b,o,none⟩ cs (λj v Y=>by rw[Addr.add_mid];exact G j v Y)
  simp only[Instr.loadAt,Instr.sureAddr,Sem.run_bind,Sem.run_pure,Result.andThen_ok,loadVar,F,k,hS,←B,U,if_true]
 |false=>
  have M:=vz hE h k
  rw[M]at B
  match cs,B with
  | [c],_=>
   have O:w.cell? ⟨b,o,none⟩=some c:=by simpa using G 0 c rfl
   simp[Instr.loadAt,Instr.sureAddr,Sem.run_bind,Result.andThen_ok,loadVar,F,k,O,List.headD]
theorem Sm{w:World}{b off n:Nat}{vs:Array Value}{ty:TypeId}{B:Nat×Nat}(h:w.heap[b]?=some (.cells vs ty B)):w.rangeAt b off ((vs.toList.drop off).take n):=by
 intro j v k
 rw[List.getElem?_take]at k
 split at k
 ·rw[List.getElem?_drop]at k
  simp only[World.cell?,h]
  simpa using k
 cases k
theorem By:∀(ts:List T)(ds:List D),ts.mapM dQ=some ds→ts.mapM kH=some ds
 | [],ds,h=>h
 |t::ts,ds,h=>by
  simp only[List.mapM_cons,Option.bind_eq_bind,Option.bind_eq_some_iff,Option.pure_def,Option.some.injEq]at h⊢
  obtain⟨x,j,xs,k,rfl⟩:=h
  refine⟨x,?_,xs,By ts xs k,rfl⟩
  cases t<;>simp[dQ]at j
  subst j;rfl
theorem x6{I:aq}{m:Nat→Value}{L:List AO}{i:TI}{vs:List Value}{ts:List T}(M:vs.length=ts.length)(ab:vs.length=i.size)(Y:i.desc.agg=false→i.size=1)(B:∀(j:Nat) v t,vs[j]?=some v→ts[j]?=some t→ah I m L v t∧v.oneCell'=true):ah I m L (if i.desc.agg then .agg vs.toArray else vs.headD undef) (eA i.desc.agg ts):=by
 cases Z:i.desc.agg with
 |true=>
  simp only[if_true,eA]
  cases aa:ts.mapM dQ with
  |none=>
   refine .agg _ _ (by simpa using M) (λj v k=>?_) (λj v t k F=>(B j v t (by simpa using k) F).1)
   have U:vs[j]?=some v:=by simpa using k
   have O:=(List.getElem?_eq_some_iff.1 U).1
   exact(B j v _ U (List.getElem?_eq_getElem (by omega))).2
  |some ds=>
   obtain⟨k1,k2⟩:=HM vs ts ds (By ts ds aa) M (λj v t k F=>(B j v t k F).1)
   refine .d _ _ (.agg _ _ (by simpa using k1) (λd G=>?_) (λj v d k G=>k2 j v d (by simpa using k) G))
   obtain⟨j,O,rfl⟩:=List.mem_iff_getElem.1 G
   have k:vs[j]?=some (vs[j]'(by omega)):=List.getElem?_eq_getElem (by omega)
   have F:ts[j]?=some (ts[j]'(by omega)):=List.getElem?_eq_getElem (by omega)
   exact(k2 j _ _ k (List.getElem?_eq_getElem O)).DD (B j _ _ k F).2
 |false=>
  have:=Y Z
  match vs,ts,M,(by omega:vs.length=1)with
  | [v],[t],_,_=>simpa [eA]using (B 0 v t rfl rfl).1
theorem flat_get{size:Nat}:∀(els:List D),(∀d∈els,d.cells.length=size)→∀(k j:Nat)(d:D),els[k]?=some d→j<size→(flat els)[k*size+j]?=d.cells[j]?
 | [],_,k,j,d,h,_=>by simp at h
 |e::els,F,k,j,d,h,M=>by
  have B:e.cells.length=size:=F e (by simp)
  simp only[flat,List.flatMap_cons]
  rcases k with _|k
  ·simp at h;subst h
   rw[List.getElem?_append_left (by omega)];simp
  simp at h
  rw[List.getElem?_append_right (by rw[B,Nat.add_mul];omega)]
  have:=flat_get els (λd G=>F d (by simp[G])) k j d h M
  rw[B]
  rw[show(k+1)*size+j-size=k*size+j by rw[Nat.add_mul];omega]
  exact this
theorem fD{size:Nat}:∀(els:List D),(∀d∈els,d.cells.length=size)→(flat els).length=els.length*size
 | [],_=>by simp[flat]
 |e::els,j=>by
  have:=fD els (λd k=>j d (by simp[k]))
  simp only[flat,List.flatMap_cons,List.length_append,List.length_cons]at *
  rw[j e (by simp),this,Nat.add_mul];omega
theorem xN{P:Program}{E:bN}{ty:TypeId}{i:TI}(hE:bw P E)(h:E ty=some i){w:World}{I:aq}{m:Nat→Value}{L:List AO}{b o size k off:Nat}{els:List D}{val:Nat→Value}(aj:∀d∈els,d.cells.length=size∧∀x∈d.cells,x.one=true)(au:∀j,j<els.length*size→w.cell? ⟨b,o+j,none⟩=some (val j))(aA:∀(j:Nat) x,(flat els)[j]?=some x→Rd I (val j) x)(G:(hY i size els k off).ob) :
  (hY i size els k off).bM=.none∧∃u,(Instr.loadAt ty (.pointer (some ⟨b,o+k*size+off,none⟩))).run P w=.ok u w∧ah I m L u (hY i size els k off).t:=by
 have ak:∀d∈els,d.cells.length=size:=λd O=>(aj d O).1
 have ab:k<els.length:=by unfold hY at G;split at G<;>exact G.1
 have af:els[k]?=some els[k]:=List.getElem?_eq_getElem ab
 have ae:dS els k=els[k]:=by simp[dS,af]
 have aD:off+i.size≤size:=by
  unfold hY at G;split at G
  ·rename_i U;omega
  exact G.2
 have ag:els[k]∈els:=List.getElem_mem ab
 have av:els[k].cells.length=size:=ak _ ag
 have ar:∀j,j<size→k*size+j<els.length*size:=λj B=>by
  have:(k+1)*size≤els.length*size:=Nat.mul_le_mul_right _ ab
  rw[Nat.add_mul]at this;omega
 have aB:w.rangeAt b (o+k*size+off) ((List.range i.size).map λj=>val (k*size+(off+j))):=by
  intro j v M
  simp only[List.getElem?_map]at M
  by_cases B:j<i.size
  ·simp[B]at M
   have:=au (k*size+(off+j)) (ar _ (by omega))
   rw[show o+k*size+off+j=o+(k*size+(off+j)) by omega,this,M]
  simp[B]at M
 have aw:=Ie hE h w b (o+k*size+off) _ (by simp) aB
 have ai:∀j,j<i.size→∀x,els[k].cells[off+j]?=some x→Rd I (val (k*size+(off+j))) x:=λj B x F=>
  aA _ x ((flat_get els ak k (off+j) els[k] af (by omega)).trans F)
 have az:∀x∈els[k].cells,x.one=true:=(aj _ ag).2
 refine⟨by unfold hY;split<;>rfl,_,aw,?_⟩
 have ad:∀ds:List D,ds=(els[k].cells.drop off).take i.size→ah I m L (if i.desc.agg then .agg ((List.range i.size).map λj=>val (k*size+(off+j))).toArray else((List.range i.size).map λj=>val (k*size+(off+j))).headD undef) (.d (dY i.desc.agg ds)):=by
  intro ds aa
  have Z:ds.length=i.size:=by rw[aa,List.length_take,List.length_drop,av];omega
  have Y:∀(j:Nat) x,ds[j]?=some x→j<i.size∧els[k].cells[off+j]?=some x:=by
   intro j x F
   have B:j<i.size:=by rw[←Z];exact(List.getElem?_eq_some_iff.1 F).1
   rw[aa,List.getElem?_take,if_pos B,List.getElem?_drop]at F
   exact⟨B,F⟩
  cases an:i.desc.agg with
  |true=>
   simp only[if_true,dY]
   refine .d _ _ (.agg _ _ (by simp[Z]) (λd O=>?_) (λj v d M O=>?_))
   ·rw[aa]at O
    exact az d (List.mem_of_mem_drop (List.mem_of_mem_take O))
   obtain⟨B,F⟩:=Y j d O
   have:v=val (k*size+(off+j)):=by
    simp[B]at M
    exact M.symm
   rw[this];exact ai j B d F
  |false=>
   have al:=vz hE h an
   rw[al]at Z⊢
   match ds,Z,Y with
   | [x],_,Y=>
    obtain⟨_,F⟩:=Y 0 x rfl
    simp only[dY,List.headD,Bool.false_eq_true,if_false]
    exact .d _ _ (by simpa using ai 0 (by omega) x F)
 by_cases U:size=i.size∧off=0
 ·simp only[hY,if_pos U]at G⊢
  have aE:size=i.size:=U.1
  have ay:off=0:=U.2
  have ao:qj (dS els k)=i.desc.agg:=G.2
  have:=ad els[k].cells (by subst ay;rw[List.drop_zero,List.take_of_length_le (by omega)])
  rw[ae]at ao⊢
  have ax:dY i.desc.agg els[k].cells=els[k]:=by
   cases aC:els[k]<;>simp_all [qj,dY,D.cells]
  rw[ax]at this
  exact this
 simp only[hY,if_neg U]
 rw[ae]
 exact ad _ rfl
section
variable {P:Program}{V:Env}{w0 w:World}{I0 I:aq}{m:Nat→Value}{l L:List AO}
theorem H5{w:World}{F:Nat}{e:TypeId}{size n b c:Nat}{xs:List Value}(h:w.ownsRow F e size (.slice (some ⟨b,0,none⟩) n c) n xs):∀(j:Nat) x,xs[j]?=some x→w.cell? ⟨b,j,none⟩=some x:=by
 intro j x B
 rcases h.2 with ⟨k,_⟩| ⟨g,O,cur,k,aa,M,U,Y,Z,G⟩
 ·cases k
 injection k with k _ _;injection k with k;injection k with k;subst k
 rw[←G,List.getElem?_take]at B
 split at B
 ·simpa [World.cell?,M]using B
 cases B
theorem H6{F:Nat}{v:Value}{e:TypeId}{size b n c:Nat}{els:List D}{xs:List Value}(B:w.ownsRow F e size v els.length xs)(k:v=.slice (some ⟨b,0,none⟩) n c):els.length=n∧∀(j:Nat) x,xs[j]?=some x→w.cell? ⟨b,j,none⟩=some x:=by
 have G:els.length=n:=by
  rcases B.2 with ⟨q,_⟩| ⟨g,cap,cur,q,_⟩<;>rw[q]at k
  ·cases k
  injection k
 subst G;subst k
 exact⟨rfl,H5 B⟩
theorem CY(hE:bw P V.E)(ab:av w0 I0 w I m L)(Z:ep l L){ty:TypeId}{v:Value}{x:T}(O:ah I m L v x)(B:(eT V.E ty l x).ob) :
  (eT V.E ty l x).bM=.none∧∃u,(Instr.loadAt ty v).run P w=.ok u w∧ah I m L u (eT V.E ty l x).t:=by
 cases O with
 |ptr id b off Y au=>
  simp only[eT]at B⊢
  cases hi:V.E ty with
  |none=>simp[hi,R.bad]at B
  |some i=>
   cases F:l[id]? with
   |none=>simp[hi,F,R.bad]at B
   |some o=>
    cases o with
    |var t' cs=>
     simp only[hi,F]at B⊢
     split at B
     ·rename_i ar
      rw[if_pos ar]
      obtain⟨ay,vs,G,al,U,an,ae,az⟩:=ab.obj id _ (Z.get F)
      rw[au]at G;injection G with G;injection G with G;injection G with G;subst G
      have ao:((vs.toList.drop off).take i.size).length=i.size:=by simp;omega
      refine⟨rfl,_,Ie hE hi w b off _ ao (Sm U),?_⟩
      refine x6 (by simp;omega) ao (vz hE hi) (λj v t Y ad=>?_)
      rw[List.getElem?_take]at Y ad
      split at Y
      ·rename_i M
       rw[if_pos M]at ad
       rw[List.getElem?_drop]at Y ad
       exact ae (off+j) v t (by simpa using Y) ad
      cases Y
     simp[R.bad]at B
    |_=>simp[hi,F,R.bad]at B
 |aS b o size els k off val al U an ae=>
  simp only[eT]at B⊢
  cases hi:V.E ty with
  |none=>simp[hi,R.bad]at B
  |some i=>
   simp only[hi]at B⊢
   exact xN hE hi U (λj M=>ab.sat.cell _ _ _ (an j M)) ae B
 |aO a id k off al U=>
  simp only[eT]at B⊢
  cases hi:V.E ty with
  |none=>simp[hi,R.bad]at B
  |some i=>
   cases F:l[id]? with
   |none=>simp[hi,F,R.bad]at B
   |some o=>
    cases o with
    |row e size els=>
     simp only[hi,F]at B⊢
     obtain⟨b,n,c,ak,rfl⟩:=U e size els (.inl (Z.get F))
     obtain⟨xs,k1,k2,aj,ax⟩:=ab.obj id _ (Z.get F)
     obtain⟨aw,af⟩:=H6 k1 ak
     have ai:xs.length=els.length*size:=k1.1
     have:=xN (P:=P) (I:=I) (m:=m) (L:=L) (w:=w) (b:=b) (o:=0) (k:=k) (off:=off) (val:=λj=>(xs[j]?).getD undef) hE hi k2
      (
       λj M=>by rw[Nat.zero_add];exact af j _ (by simp[ai,M])) (λj x O=>by
       have aq:j<els.length*size:=by rw[←fD els (λd ag=>(k2 d ag).1)];exact(List.getElem?_eq_some_iff.1 O).1
       have aa:xs[j]?=some (xs[j]'(by omega)):=List.getElem?_eq_getElem (by omega)
       rw[aa];exact aj j _ x aa O) B
     simpa using this
    |aM e size els=>
     simp only[hi,F]at B⊢
     obtain⟨b,n,c,ak,rfl⟩:=U e size els (.inr (Z.get F))
     obtain⟨xs,k1,k2,aj,ax⟩:=ab.obj id _ (Z.get F)
     obtain⟨aw,af⟩:=H6 k1 ak
     have ai:xs.length=els.length*size:=k1.1
     have:=xN (P:=P) (I:=I) (m:=m) (L:=L) (w:=w) (b:=b) (o:=0) (k:=k) (off:=off) (val:=λj=>(xs[j]?).getD undef) hE hi k2
      (
       λj M=>by rw[Nat.zero_add];exact af j _ (by simp[ai,M])) (λj x O=>by
       have aq:j<els.length*size:=by rw[←fD els (λd ag=>(k2 d ag).1)];exact(List.getElem?_eq_some_iff.1 O).1
       have aa:xs[j]?=some (xs[j]'(by omega)):=List.getElem?_eq_getElem (by omega)
       rw[aa];exact aj j _ x aa O) B
     simpa using this
    |_=>simp[hi,F,R.bad]at B
 |_=>simp[eT,R.bad]at B
end
end Go.af
namespace Go.af
open Go Go.RowKit
variable [aL]
section
variable {P:Program}{V:Env}{w0 w:World}{I0 I:aq}{m:Nat→Value}{l L:List AO}
theorem iS{l:List AO}{id:Nat}{o o':AO}(h:l[id]?=some o)(B:o.isVar=o'.isVar)(k:Nat):isVar (l.set id o') k=isVar l k:=by
 unfold isVar
 by_cases j:k=id
 ·subst j
  rw[List.getElem?_set,if_pos rfl,if_pos (List.getElem?_eq_some_iff.1 h).1,h];simp[B]
 rw[List.getElem?_set,if_neg (Ne.symm j)]
theorem iR{l:List AO}{id:Nat}{o o':AO}(h:l[id]?=some o)(B:o.isRow=o'.isRow)(k:Nat):isRow (l.set id o') k=isRow l k:=by
 unfold isRow
 by_cases j:k=id
 ·subst j
  rw[List.getElem?_set,if_pos rfl,if_pos (List.getElem?_eq_some_iff.1 h).1,h];simp[B]
 rw[List.getElem?_set,if_neg (Ne.symm j)]
theorem Le.Iu{id:Nat}{ty G:TypeId}{cs F:List T}(h:l[id]?=some (.var ty cs)):Le I m l I m (l.set id (.var G F)):=by
 refine⟨.refl I,by simp,λk _ B=>⟨(iS (o':=.var G F) h rfl k).trans B,rfl⟩,λk _ B=>⟨(iR (o':=.var G F) h rfl k).symm.trans B,rfl⟩,λk e size els B j=>⟨els,?_⟩⟩
 by_cases M:k=id
 ·subst M;rw[List.getElem?_set,if_pos rfl,if_pos (List.getElem?_eq_some_iff.1 h).1]at j;simp at j
 rw[List.getElem?_set,if_neg (Ne.symm M)]at j;exact j
theorem zS(hE:bw P V.E)(U:av w0 I0 w I m l){id off b:Nat}{ty t':TypeId}{cs:List T}{x:T}{v:Value}(ab:l[id]?=some (.var t' cs))(an:m id=.pointer (some ⟨b,0,none⟩))(aY:ah I m l v x)(ag:(bh x).all T.fh=true)(az:(bh x).length=aE V.E ty)(ba:0<(bh x).length)(a7:off+(bh x).length≤cs.length) :
  ∃w',(Instr.storeAt ty (.pointer (some ⟨b,off,none⟩)) v).run P w=.ok () w'∧av w0 I0 w' I m (l.set id (.var t' (setAt cs off (bh x)))):=by
 obtain⟨O,vs,ad,k1,k2,aD,aF,aj⟩:=U.obj id _ ab
 rw[an]at ad;injection ad with ad;injection ad with ad;injection ad with ad;subst ad
 have aM:v.cells.toList.length=(bh x).length∧(∀u∈v.cells.toList,u.oneCell'=true)∧∀(i:Nat) u t,v.cells.toList[i]?=some u→(bh x)[i]?=some t→ah I m l u t:=by
  have one:∀(u:Value),u.oneCell'=true→u.cells.toList=[u]:=λu B=>by cases u<;>simp_all [Value.oneCell',Value.cells]
  have Y:∀(t:T),bh t=[t]→ah I m l v t→v.oneCell'=true→v.cells.toList.length=(bh t).length∧(∀u∈v.cells.toList,u.oneCell'=true)∧∀(i:Nat) u s,v.cells.toList[i]?=some u→(bh t)[i]?=some s→ah I m l u s:=by
   intro t M aU aC
   rw[one v aC,M]
   refine⟨rfl,by simpa using aC,λi u s B aB=>?_⟩
   rcases i with _|i
   ·simp at B aB;subst B;subst aB;exact aU
   simp at B
  cases aY with
  |undef=>simp[bh,T.fh]at ag
  |d _ d af=>
   by_cases M:∃ds,d=.aw ds
   ·obtain⟨ds,rfl⟩:=M;simp[bh,D.cells,T.fh,D.one]at ag
   obtain⟨F,G,aa⟩:=af.cells (λds e=>M ⟨ds,e⟩)
   refine⟨by simp[bh,F],λu B=>?_,λi u t B ai=>?_⟩
   ·obtain⟨i,hi,rfl⟩:=List.mem_iff_getElem.1 B
    have au:i<d.cells.length:=by simp at hi;omega
    exact(aa i _ d.cells[i] (by rw[←Array.getElem?_toList];exact List.getElem?_eq_getElem hi) (List.getElem?_eq_getElem au)).one (G _ (List.getElem_mem au))
   simp only[bh,List.getElem?_map]at ai
   cases ak:d.cells[i]? with
   |none=>simp[ak]at ai
   |some y=>
    simp[ak]at ai
    subst ai
    exact .d _ _ (aa i u y (by simpa using B) ak)
  |aX s=>exact Y _ rfl (.aX s) rfl
  |ptr id b off F G=>exact Y _ rfl (.ptr id b off F G) rfl
  |aS b o size els k off val F G aa aq=>exact Y _ rfl (.aS b o size els k off val F G aa aq) rfl
  |aw=>simp[bh,T.fh]at ag
  |cond=>simp[bh,T.fh]at ag
  |row A n c id F G=>exact Y _ rfl (.row A n c id F G) rfl
  |aQ A n c id x F G aa=>exact Y _ rfl (.aQ A n c id x F G aa) rfl
  |aO a id k off F G=>exact Y _ rfl (.aO a id k off F G) rfl
  |map r id F G=>exact Y _ rfl (.map r id F G) rfl
  |ar g vs ts F G=>exact Y _ rfl (.ar g vs ts F G) rfl
  |aK id b F G=>exact Y _ rfl (.aK id b F G) rfl
  |bj id b n c F G aa aq=>exact Y _ rfl (.bj id b n c F G aa aq) rfl
  |sub A n c id lo hi F G=>exact Y _ rfl (.sub A n c id lo hi F G) rfl
  |agg vs ts F G aa=>
   refine⟨by simp[bh,Value.cells,F],λu B=>?_,λi u t B M=>aa i u t (by simpa [Value.cells]using B) (by simpa [bh]using M)⟩
   obtain⟨i,hi,rfl⟩:=List.mem_iff_getElem.1 B
   simp only[Value.cells]at hi⊢
   exact G i _ (by rw[←Array.getElem?_toList];exact List.getElem?_eq_getElem hi)
 obtain⟨c1,c2,aG⟩:=aM
 have aV:(sizeOf ty).run P w=.ok v.cells.size w:=by
  cases hi:V.E ty with
  |none=>simp only[aE,hi,Option.map_none,Option.getD_none]at az;omega
  |some i=>
   rw[gL hE hi w]
   simp only[aE,hi,Option.map_some,Option.getD_some]at az
   rw[Array.length_toList]at c1;congr 1;omega
 have aW:=run_storeCells_at P b off t' v.cells.toList 0 vs w k2 (by rw[aD];omega) c2
 refine⟨_,by simp only[Instr.storeAt,Instr.sureAddr,Sem.run_bind,Sem.run_pure,Result.andThen_ok,storeVar,aV,ne_eq,not_true_eq_false,if_false,aW];rfl,?_⟩
 simp only[Nat.add_zero]
 generalize aA:(vs.toList.take off++v.cells.toList++vs.toList.drop (off+v.cells.toList.length)).toArray=new
 have a8:b<w.heap.size:=(Array.getElem?_eq_some_iff.1 k2).1
 have aP:(w.setRow b new).heap[b]?=some (.cells new t' (0,0)):=setRow_heap w b vs new t' (0,0) k2
 have ay:Le I m l I m (l.set id (.var t' (setAt cs off (bh x)))):=Le.Iu ab
 have aR:id<l.length:=(List.getElem?_eq_some_iff.1 ab).1
 refine⟨U.below.trans ⟨rfl,rfl,rfl,by simp,λk a6=>setRow_other w b _ new (by omega),λ_=>Nat.le_refl _⟩,⟨λO o u ae=>?_,λO aH ae=>?_,λO af=>(setRow_other w b _ new (λe=>by subst e;exact U.sat.ig k2 (by simp) af)).trans (U.sat.df O af),U.sat.c9⟩,U.ext,λj o Z=>?_,λi j O aT hi Z aJ aL=>?_⟩
 ·have ao:O≠b:=by rintro rfl;rw[aj.1]at ae;cases ae
  have:=U.sat.cell O o u ae
  exact(World.cell?_of_block (w:=w) (a:=⟨O,o,none⟩) (setRow_other w b _ new ao)).trans this
 ·have ao:O≠b:=by rintro rfl;rw[aj.2]at ae;cases ae
  have aN:=U.sat.mp O aH ae
  exact MapAt.to (setRow_other w b _ new ao) aN
 ·by_cases al:j=id
  ·subst al
   rw[List.getElem?_set,if_pos rfl,if_pos aR]at Z
   injection Z with Z;subst Z
   refine⟨b,new,an,k1,aP,?_,λi u t B M=>?_,aj⟩
   ·subst aA;simp[setAt,aD,List.length_append,List.length_take,List.length_drop]at c1⊢;omega
   subst aA
   have aZ:∀(i:Nat),(vs.toList.take off++v.cells.toList++vs.toList.drop (off+v.cells.toList.length))[i]?=some u→(setAt cs off (bh x))[i]?=some t→ah I m l u t∧u.oneCell'=true:=by
    intro i B M
    have l1:(vs.toList.take off).length=off:=by simp;omega
    have a1:(cs.take off).length=off:=by simp;omega
    rw[List.append_assoc,List.getElem?_append]at B
    rw[setAt,List.append_assoc,List.getElem?_append]at M
    rw[l1]at B;rw[a1]at M
    by_cases hi:i<off
    ·rw[if_pos hi]at B M
     rw[List.getElem?_take,if_pos hi]at B M
     exact aF i u t (by simpa using B) M
    rw[if_neg hi]at B M
    rw[List.getElem?_append]at B M
    rw[c1]at B
    by_cases ax:i-off<(bh x).length
    ·rw[if_pos ax]at B M
     refine⟨aG _ u t B M,c2 u ?_⟩
     exact List.mem_of_getElem? B
    rw[if_neg ax]at B M
    rw[List.getElem?_drop]at B M
    exact aF _ u t (by simpa using B) M
   have:=aZ i (by simpa using B) M
   exact⟨this.1.mono ay,this.2⟩
  rw[List.getElem?_set,if_neg (Ne.symm al)]at Z
  by_cases af:o=.dead
  ·subst af;trivial
  refine(U.obj j o Z).dD ay (λO aI=>setRow_other w b _ new ?_) (λ_ _=>⟨rfl,rfl⟩) (.set (λO u B=>setRow_other w b _ new (λe=>by subst e;rw[aj.1]at B;cases B)) (λh=>by cases h))
  rintro rfl
  exact U.sep j id O al (bg.2 ⟨o,Z,af⟩) (bg.2 ⟨_,ab,by simp⟩) aI (by rw[an];rfl)
 refine U.sep i j O aT ?_ ?_ aJ aL
 ·unfold alive at hi⊢;rwa [iS (o':=.var t' (setAt cs off (bh x))) ab rfl,iR (o':=.var t' (setAt cs off (bh x))) ab rfl]at hi
 unfold alive at Z⊢;rwa [iS (o':=.var t' (setAt cs off (bh x))) ab rfl,iR (o':=.var t' (setAt cs off (bh x))) ab rfl]at Z
end
end Go.af
namespace Go.af
open Go Go.RowKit
variable [aL]
section
variable {P:Program}{V:Env}{w0 w:World}{I0 I:aq}{m:Nat→Value}{l L:List AO}
theorem av.Ae(h:av w0 I0 w I m l){id:Nat}{o o':AO}{J:aq}(B:l[id]?=some o)(af:o.isVar=o'.isVar)(ab:o.isRow=o'.isRow)(al:o'.isRow=true)(ay:∀e size els,(o'=.row e size els∨o'=.aM e size els)→∃els',(o=.row e size els'∨o=.aM e size els'))(aa:I.le J)(Y:∀b,own (m id)≠some b→J.cell b=I.cell b∧J.mp b=I.mp b)(az:cw w J)(ax:dh w0.heap.size w J m (l.set id o') (m id) o'):av w0 I0 w J m (l.set id o')∧Le I m l J m (l.set id o'):=by
 have aj:id<l.length:=(List.getElem?_eq_some_iff.1 B).1
 have ah:Le I m l J m (l.set id o'):=by
  refine⟨aa,by simp,λk _ Z=>⟨(iS B af k).trans Z,rfl⟩,λk _ Z=>⟨(iR B ab k).symm.trans Z,rfl⟩,λk e size els Z hh=>?_⟩
  by_cases ak:k=id
  ·subst ak;rw[List.getElem?_set,if_pos rfl,if_pos aj]at hh
   have ar:o'=.row e size els∨o'=.aM e size els:=by rcases hh with hh|hh<;>(injection hh with hh;simp[hh])
   obtain⟨els',hc⟩:=ay e size els ar
   exact⟨els',by rcases hc with hc|hc<;>rw[B,hc]<;>simp⟩
  rw[List.getElem?_set,if_neg (Ne.symm ak)]at hh;exact⟨els,hh⟩
 have U:o ≠ .dead:=by rintro rfl;rw[←ab]at al;simp[AO.isRow]at al
 refine⟨⟨h.below,az,⟨λ_ _ _ x=>aa.cell _ _ _ (h.ext.lc _ _ _ x),λ_ _ x=>aa.mp _ _ (h.ext.lm _ _ x),λb F x=>aa.df b (h.ext.ld b F x),λb F=>?_,λb F=>?_⟩,λj ag G=>?_,λi j b au hi G=>?_⟩,ah⟩
 ·by_cases O:own (m id)=some b
  ·have:=((h.obj id o B).lt U O).2;omega
  exact(Y b O).1.trans (h.ext.cell b F)
 ·by_cases O:own (m id)=some b
  ·have:=((h.obj id o B).lt U O).2;omega
  exact(Y b O).2.trans (h.ext.mp b F)
 ·by_cases ad:j=id
  ·subst ad;rw[List.getElem?_set,if_pos rfl,if_pos aj]at G;injection G with G;subst G;exact ax
  rw[List.getElem?_set,if_neg (Ne.symm ad)]at G
  by_cases ai:ag=.dead
  ·subst ai;trivial
  exact(h.obj j ag G).dD ah (λ_ _=>rfl) (λb F=>Y b (λao=>h.sep j id b ad (bg.2 ⟨ag,G,ai⟩) (bg.2 ⟨o,B,U⟩) F ao)) ⟨λb u an ae=>⟨rfl,Y b λF=>(((h.obj id o B).Am U F).elim (λM=>ae id (by unfold bO;rw[B];exact M) F) λaw=>by rw[aw]at an;cases an)⟩,λq b ae F=>(tC ae).elim (λM=>.inl ⟨q,M,F⟩) λM=>by
   obtain⟨rfl,_⟩:=M
   exact((h.obj q o B).Am U F).elim (λM=>.inl ⟨q,by unfold bO;rw[B];exact M,F⟩) .inr⟩
 refine h.sep i j b au ?_ ?_
 ·unfold alive at hi⊢;rwa [iS (o':=o') B af,iR (o':=o') B ab]at hi
 unfold alive at G⊢;rwa [iS (o':=o') B af,iR (o':=o') B ab]at G
def aq.dq(I:aq)(b:Nat)(xs:List Value):aq:=⟨λj o=>if j=b then(match xs[o]? with|some x=>some x|none=>I.cell b o)else I.cell j o,I.mp,I.df⟩
def aq.nZ(I:aq)(b:Nat)(k:ME):aq:=⟨I.cell,λj=>if j=b then some k else I.mp j,I.df⟩
theorem pz{J:aq}{v:Value}{M:Nat}{e:TypeId}{size:Nat}{els:List D}{xs:List Value}(B:w.ownsRow M e size v els.length xs)(F:∀d∈els,d.cells.length=size∧∀x∈d.cells,x.one=true)(U:∀(j:Nat) x y,xs[j]?=some x→(flat els)[j]?=some y→Rd J x y)(Y:∀b,own v=some b→∀(j:Nat) x,xs[j]?=some x→J.cell b j=some x):Rd J v (.slice size els):=by
 have ag:xs.length=els.length*size:=B.1
 rcases B.2 with ⟨rfl,aa⟩| ⟨g,O,cur,rfl,ab,ad,k1,k2,ah,ai⟩
 ·have:els=[]:=List.eq_nil_of_length_eq_zero aa
  subst this
  exact .iz _ _ _ (Nat.zero_le _)
 refine .slice g 0 els.length O size els (λj=>(xs[j]?).getD undef) rfl k1 k2 F (λj ae=>?_) (λj x G=>?_)
 ·have k:xs[j]?=some (xs[j]'(by omega)):=List.getElem?_eq_getElem (by omega)
  rw[Nat.zero_add,k];exact Y g rfl j _ k
 have af:j<els.length*size:=by rw[←fD els (λd Z=>(F d Z).1)];exact(List.getElem?_eq_some_iff.1 G).1
 have k:xs[j]?=some (xs[j]'(by omega)):=List.getElem?_eq_getElem (by omega)
 rw[k];exact U j _ x k G
theorem Ab(M:av w0 I0 w I m l){v:Value}{t:T}{x:D}{l':List AO}(aL:ah I m l v t)(k:bY l t=some (x,l')):∃J,Le I m l J m l'∧av w0 I0 w J m l'∧Rd J v x∧l'.length=l.length:=by
 cases aL with
 |d v y aj=>simp[bY]at k;obtain⟨rfl,rfl⟩:=k;exact⟨I,.refl ..,M,aj,rfl⟩
 |aX s=>simp[bY]at k;obtain⟨rfl,rfl⟩:=k;exact⟨I,.refl ..,M,.iz _ _ _ (Nat.zero_le _),rfl⟩
 |aQ A n c id x aD ae aG=>simp[bY]at k;obtain⟨rfl,rfl⟩:=k;exact⟨I,.refl ..,M,aG,rfl⟩
 |row A n c id aD ae=>
  simp only[bY]at k
  cases O:l[id]? with
  |none=>simp[O]at k
  |some o=>
   cases o with
   |aM e s els=>
    simp only[O,Option.some.injEq,Prod.mk.injEq]at k
    obtain⟨rfl,rfl⟩:=k
    have aa:=ae (by simp[isRow,O,AO.isRow])
    obtain⟨xs,k1,k2,af,an⟩:=M.obj id _ O
    rw[aa]at k1 an
    exact⟨I,.refl ..,M,pz k1 k2 af (λb ai=>(an b ai).2.1),rfl⟩
   |row e s els=>
    simp only[O,Option.some.injEq,Prod.mk.injEq]at k
    obtain⟨rfl,rfl⟩:=k
    have aa:=ae (by simp[isRow,O,AO.isRow])
    obtain⟨xs,k1,k2,af,an⟩:=M.obj id _ O
    rcases U:own (m id)with _|b
    ·
     have ay:∀b,own (m id)≠some b:=λb h=>by rw[U]at h;cases h
     obtain⟨ak,al⟩:=M.Ae (o':=.aM e s els) (J:=I) O rfl rfl rfl (λaC s' els' h=>by rcases h with h|h<;>cases h;exact⟨els,.inl rfl⟩) (.refl I) (λ_ _=>⟨rfl,rfl⟩) M.sat ⟨xs,k1,k2,af,λb ai=>absurd ai (ay b)⟩
     rw[aa]at k1 ay
     exact⟨I,al,ak,pz k1 k2 af (λb ai=>absurd ai (ay b)),by simp⟩
    obtain⟨n1,aN⟩:=an b U
    let J:=I.dq b xs
    have aE:∀(j:Nat) x,xs[j]?=some x→J.cell b j=some x:=λj x ab=>by simp[J,aq.dq,ab]
    have Y:I.le J:=⟨λG o u F=>by
     by_cases B:G=b
     ·subst B;rw[n1 o]at F;cases F
     simp[J,aq.dq,B,F],λ_ _ h=>h,λ_ h=>h⟩
    have aJ:∀G,some b≠some G→J.cell G=I.cell G∧J.mp G=I.mp G:=λG B=>⟨by funext o;simp[J,aq.dq,show G≠b from λe=>B (by rw[e])],rfl⟩
    have aH:∀(j:Nat) x,xs[j]?=some x→w.cell? ⟨b,j,none⟩=some x:=by
     rw[aa]at k1 U
     cases A with
     |none=>simp[own]at U
     |some a=>
      obtain⟨q,_⟩:∃ax,(Value.slice (some a) n c)=.slice (some ⟨b,0,none⟩) els.length ax∧True:=by
       rcases k1.2 with ⟨q,_⟩| ⟨g,ax,cur,q,_⟩
       ·cases q
       rw[q]at U;simp[own]at U;subst U;exact⟨ax,q,trivial⟩
      rename_i aK
      rw[aK.1]at k1
      exact H5 k1
    have az:cw w J:=⟨λG o u F=>by
     by_cases B:G=b
     ·subst B
      simp only[J,aq.dq,if_true]at F
      cases ab:xs[o]? with
      |none=>simp only[ab]at F;rw[n1 o]at F;cases F
      |some x=>simp only[ab]at F;injection F with F;subst F;exact aH o x ab
     simp only[J,aq.dq,if_neg B]at F;exact M.sat.cell G o u F,M.sat.mp,M.sat.df,λg d h=>(M.sat.c9 g d h).mono Y⟩
    obtain⟨ak,al⟩:=M.Ae (o':=.aM e s els) (J:=J) O rfl rfl rfl (λaC s' els' h=>by rcases h with h|h<;>cases h;exact⟨els,.inl rfl⟩) Y (λG B=>aJ G (λe=>B (U.trans e))) az
     ⟨xs,k1,k2,λj x y ab aj=>(af j x y ab aj).mono Y,λG B=>by
      rw[U]at B;injection B with B;subst B
      exact⟨aN,aE,λj aI=>by simp only[J,aq.dq,if_true,List.getElem?_eq_none aI];exact n1 j⟩⟩
    rw[aa]at k1 U
    exact⟨J,al,ak,pz k1 k2 (λj x y ab aj=>(af j x y ab aj).mono Y) (λG B=>by rw[U]at B;injection B with B;subst B;exact aE),by simp⟩
   |_=>simp[O]at k
 |map r id aD ae=>
  simp only[bY]at k
  cases O:l[id]? with
  |none=>simp[O]at k
  |some o=>
   cases o with
   |cU ks vs=>
    simp only[O,Option.some.injEq,Prod.mk.injEq]at k
    obtain⟨rfl,rfl⟩:=k
    have aa:=ae (by simp[isRow,O,AO.isRow])
    obtain⟨b,ag,Z,aF,aA,ao,ar,au,aw,aB,aO⟩:=M.obj id _ O
    rw[aa]at Z;injection Z with Z;subst Z
    exact⟨I,.refl ..,M,.map b ag ks vs aO ao ar au aw,rfl⟩
   |map ks vs=>
    simp only[O,Option.some.injEq,Prod.mk.injEq]at k
    obtain⟨rfl,rfl⟩:=k
    have aa:=ae (by simp[isRow,O,AO.isRow])
    obtain⟨b,ag,Z,aF,aA,ao,ar,au,aw,aB⟩:=M.obj id _ O
    have U:own (m id)=some b:=by rw[Z];rfl
    let J:=I.nZ b ag
    have Y:I.le J:=⟨λ_ _ _ h=>h,λG es' F=>by
     by_cases B:G=b
     ·subst B;rw[aB.2]at F;cases F
     simp[J,aq.nZ,B,F],λ_ h=>h⟩
    have az:cw w J:=⟨M.sat.cell,λG es' F=>by
     by_cases B:G=b
     ·subst B;simp only[J,aq.nZ,if_true]at F;injection F with F;subst F;exact aA
     simp only[J,aq.nZ,if_neg B]at F;exact M.sat.mp G es' F,M.sat.df,λg d h=>(M.sat.c9 g d h).mono Y⟩
    obtain⟨ak,al⟩:=M.Ae (o':=.cU ks vs) (J:=J) O rfl rfl rfl (λaC s' els' h=>by rcases h with h|h<;>cases h) Y
     (λG B=>⟨rfl,by simp[J,aq.nZ,show G≠b from λe=>B (by rw[U,e])]⟩) az
     ⟨b,ag,Z,aF,aA,ao,ar,λi e d ad k=>(au i e d ad k).mono Y,λi e d ad k=>(aw i e d ad k).mono Y,aB.1,by simp[J,aq.nZ]⟩
    rw[aa]at Z;injection Z with Z;subst Z
    exact⟨J,al,ak,.map b ag ks vs (by simp[J,aq.nZ]) ao ar (λi e d ad k=>(au i e d ad k).mono Y) (λi e d ad k=>(aw i e d ad k).mono Y),by simp⟩
   |_=>simp[O]at k
 |_=>simp[bY]at k
theorem AQ:∀(ts:List T)(l:List AO)(I:aq)(vs:List Value)(ds:List D)(l':List AO),av w0 I0 w I m l→vs.length=ts.length→(∀(i:Nat) v t,vs[i]?=some v→ts[i]?=some t→ah I m l v t)→cy l ts=some (ds,l') →
  ∃J,Le I m l J m l'∧av w0 I0 w J m l'∧vs.length=ds.length∧(∀(i:Nat) v d,vs[i]?=some v→ds[i]?=some d→Rd J v d)∧l'.length=l.length
 | [],l,I,vs,ds,l',U,k,O,j=>by
  simp[cy]at j;obtain⟨rfl,rfl⟩:=j
  have:vs=[]:=List.eq_nil_of_length_eq_zero (by simpa using k)
  subst this
  exact⟨I,.refl ..,U,rfl,by simp,rfl⟩
 |t::ts,l,I,vs,ds,l',U,k,O,j=>by
  match vs,k with
  |v::vs,k=>
   simp only[cy]at j
   cases G:bY l t with
   |none=>simp[G]at j
   |some p=>
    obtain⟨x,l1⟩:=p
    simp only[G]at j
    cases M:cy l1 ts with
    |none=>simp[M]at j
    |some q=>
     obtain⟨xs,af⟩:=q
     simp only[M,Option.some.injEq,Prod.mk.injEq]at j
     obtain⟨rfl,rfl⟩:=j
     obtain⟨aa,Y,aj,al,n1⟩:=Ab U (O 0 v t rfl rfl) G
     obtain⟨ab,Z,ak,ag,ai,an⟩:=AQ ts l1 aa vs xs af aj (by simpa using k) (λi v t ae ad=>(O (i+1) v t (by simpa using ae) (by simpa using ad)).mono Y) M
     refine⟨ab,Y.trans Z,ak,by simp[ag],λi u d F B=>?_,by omega⟩
     rcases i with _|i
     ·simp at F B;subst F;subst B;exact al.mono Z.cB
     simp at F B;exact ai i u d F B
theorem Ac{l:List AO}{t:T}{x:D}{l':List AO}(k:il l t=true)(h:bY l t=some (x,l')):l'=l:=by
 cases t<;>simp[il,bY]at k h
 ·exact h.2.symm
 ·exact h.2.symm
 ·rename_i id
  cases j:l[id]? with
  |none=>simp[j]at k
  |some o=>cases o<;>simp[j]at k h;exact h.2.symm
 ·rename_i id
  cases j:l[id]? with
  |none=>simp[j]at k
  |some o=>cases o<;>simp[j]at k h;exact h.2.symm
 exact h.2.symm
theorem AR:∀(ts:List T){l:List AO}{ds:List D}{l':List AO},ts.all (il l)=true→cy l ts=some (ds,l')→l'=l
 | [],l,ds,l',_,h=>by simp[cy]at h;exact h.2.symm
 |t::ts,l,ds,l',B,h=>by
  simp only[List.all_cons,Bool.and_eq_true]at B
  simp only[cy]at h
  cases j:bY l t with
  |none=>simp[j]at h
  |some p=>
   obtain⟨x,l1⟩:=p
   simp only[j]at h
   have:=Ac B.1 j
   subst this
   cases k:cy l1 ts with
   |none=>simp[k]at h
   |some q=>
    obtain⟨xs,F⟩:=q
    simp only[k,Option.some.injEq,Prod.mk.injEq]at h
    rw[←h.2];exact AR ts B.2 k
theorem IX{l L:List AO}(B:ep l L){t:T}{x:D}{l':List AO}(k:il l t=true)(h:bY l t=some (x,l')):bY L t=some (x,L)∧il L t=true:=by
 cases t<;>simp[il,bY]at k h⊢
 ·exact h.1
 ·exact h.1
 ·rename_i id
  cases j:l[id]? with
  |none=>simp[j]at k
  |some o=>cases o<;>simp[j]at k h;simp[B.get j,h.1]
 ·rename_i id
  cases j:l[id]? with
  |none=>simp[j]at k
  |some o=>cases o<;>simp[j]at k h;simp[B.get j,h.1]
 exact h.1
theorem AN:∀(ts:List T){l L:List AO}{ds:List D}{l':List AO},ep l L→ts.all (il l)=true→cy l ts=some (ds,l')→cy L ts=some (ds,L)
 | [],l,L,ds,l',_,_,h=>by simp[cy]at h⊢;exact h.1
 |t::ts,l,L,ds,l',F,k,h=>by
  simp only[List.all_cons,Bool.and_eq_true]at k
  simp only[cy]at h⊢
  cases j:bY l t with
  |none=>simp[j]at h
  |some p=>
   obtain⟨x,l1⟩:=p
   simp only[j]at h
   have:=Ac k.1 j
   subst this
   cases B:cy l1 ts with
   |none=>simp[B]at h
   |some q=>
    obtain⟨xs,G⟩:=q
    simp only[B,Option.some.injEq,Prod.mk.injEq]at h
    rw[(IX F k.1 j).1]
    simp only[AN ts F k.2 B,h.1]
theorem Sh{l L:List AO}(B:ep l L){t:T}(k:il l t=true):il L t=true:=by
 cases t<;>simp[il]at k⊢
 ·rename_i id
  cases j:l[id]? with
  |none=>simp[j]at k
  |some o=>cases o<;>simp[j]at k;simp[B.get j]
 rename_i id
 cases j:l[id]? with
 |none=>simp[j]at k
 |some o=>cases o<;>simp[j]at k;simp[B.get j]
theorem Sq{v:Value}{ts:List T}(h:ah I m l v (.agg ts)):∃vs:Array Value,v=.agg vs∧vs.size=ts.length∧(∀(i:Nat) v,vs[i]?=some v→v.oneCell'=true)∧∀(i:Nat) v t,vs[i]?=some v→ts[i]?=some t→ah I m l v t:=by
 cases h with
 |agg vs _ j k B=>exact⟨vs,rfl,j,k,B⟩
theorem rP{l:List AO}{ts:List T}{x:D}{l':List AO}(h:cC l (.agg ts)=some (x,l')):∃ds,x=.agg ds∧cy l ts=some (ds,l'):=by
 simp only[cC]at h
 cases j:cy l ts with
 |none=>rw[j]at h;cases h
 |some p=>
  obtain⟨ds,l1⟩:=p
  rw[j]at h;simp at h
  exact⟨ds,h.1.symm,by rw[h.2]⟩
theorem rQ{l:List AO}{t:T}(h:∀ts,t ≠ .agg ts):cC l t=bY l t:=by
 cases t<;>first|rfl|exact absurd rfl (h _)
theorem EG{l:List AO}{t:T}(h:∀ts,t ≠ .agg ts):mg l t=il l t:=by
 cases t<;>first|rfl|exact absurd rfl (h _)
theorem mB(G:av w0 I0 w I m l){v:Value}{t:T}{x:D}{l':List AO}(B:ah I m l v t)(j:cC l t=some (x,l')):∃J,Le I m l J m l'∧av w0 I0 w J m l'∧Rd J v x∧l'.length=l.length:=by
 by_cases F:∃ts,t=.agg ts
 ·obtain⟨ts,rfl⟩:=F
  obtain⟨ds,rfl,Z⟩:=rP j
  obtain⟨vs,rfl,O,U,Y⟩:=Sq B
  obtain⟨J,le,ae,aa,M,ad⟩:=AQ ts l I vs.toList ds l' G (by simpa using O) (λi v t k B=>Y i v t (by simpa using k) B) Z
  have ab:vs.size=ds.length:=by simpa using aa
  refine⟨J,le,ae,.agg vs ds ab (λd j=>?_) (λi v d k j=>M i v d (by simpa using k) j),ad⟩
  obtain⟨i,hi,rfl⟩:=List.mem_iff_getElem.1 j
  have k:vs[i]?=some (vs[i]'(by omega)):=Array.getElem?_eq_getElem (by omega)
  exact(M i _ _ (by simpa using k) (List.getElem?_eq_getElem hi)).DD (U i _ k)
 rw[rQ λts h=>F ⟨ts,h⟩]at j
 exact Ab G B j
theorem jk:∀(ts:List T)(l:List AO)(I:aq)(vs:List Value)(ds:List D)(l':List AO),av w0 I0 w I m l→vs.length=ts.length→(∀(i:Nat) v t,vs[i]?=some v→ts[i]?=some t→ah I m l v t)→eZ l ts=some (ds,l') →
  ∃J,Le I m l J m l'∧av w0 I0 w J m l'∧vs.length=ds.length∧(∀(i:Nat) v d,vs[i]?=some v→ds[i]?=some d→Rd J v d)∧l'.length=l.length
 | [],l,I,vs,ds,l',U,k,O,j=>by
  simp[eZ]at j;obtain⟨rfl,rfl⟩:=j
  have:vs=[]:=List.eq_nil_of_length_eq_zero (by simpa using k)
  subst this
  exact⟨I,.refl ..,U,rfl,by simp,rfl⟩
 |t::ts,l,I,vs,ds,l',U,k,O,j=>by
  match vs,k with
  |v::vs,k=>
   simp only[eZ]at j
   cases G:cC l t with
   |none=>simp[G]at j
   |some p=>
    obtain⟨x,l1⟩:=p
    simp only[G]at j
    cases M:eZ l1 ts with
    |none=>simp[M]at j
    |some q=>
     obtain⟨xs,af⟩:=q
     simp only[M,Option.some.injEq,Prod.mk.injEq]at j
     obtain⟨rfl,rfl⟩:=j
     obtain⟨aa,Y,aj,al,n1⟩:=mB U (O 0 v t rfl rfl) G
     obtain⟨ab,Z,ak,ag,ai,an⟩:=jk ts l1 aa vs xs af aj (by simpa using k) (λi v t ae ad=>(O (i+1) v t (by simpa using ae) (by simpa using ad)).mono Y) M
     refine⟨ab,Y.trans Z,ak,by simp[ag],λi u d F B=>?_,by omega⟩
     rcases i with _|i
     ·simp at F B;subst F;subst B;exact al.mono Z.cB
     simp at F B;exact ai i u d F B
theorem T4{l:List AO}{t:T}{x:D}{l':List AO}(k:mg l t=true)(h:cC l t=some (x,l')):l'=l:=by
 by_cases j:∃ts,t=.agg ts
 ·obtain⟨ts,rfl⟩:=j
  obtain⟨ds,rfl,B⟩:=rP h
  exact AR ts k B
 rw[rQ λts h=>j ⟨ts,h⟩]at h
 rw[EG λts h=>j ⟨ts,h⟩]at k
 exact Ac k h
theorem T2{l L:List AO}(B:ep l L){t:T}{x:D}{l':List AO}(j:mg l t=true)(h:cC l t=some (x,l')):cC L t=some (x,L)∧mg L t=true:=by
 by_cases k:∃ts,t=.agg ts
 ·obtain⟨ts,rfl⟩:=k
  obtain⟨ds,rfl,F⟩:=rP h
  refine⟨by simp only[cC,AN ts B j F],?_⟩
  simp only[mg,List.all_eq_true]at j⊢
  intro t G
  exact Sh B (j t G)
 rw[rQ λts h=>k ⟨ts,h⟩]at h⊢
 rw[EG λts h=>k ⟨ts,h⟩]at j⊢
 exact IX B j h
theorem AT:∀(ts:List T){l L:List AO}{ds:List D}{l':List AO},ep l L→ts.all (mg l)=true→eZ l ts=some (ds,l')→eZ L ts=some (ds,L)
 | [],l,L,ds,l',_,_,h=>by simp[eZ]at h⊢;exact h.1
 |t::ts,l,L,ds,l',F,k,h=>by
  simp only[List.all_cons,Bool.and_eq_true]at k
  simp only[eZ]at h⊢
  cases j:cC l t with
  |none=>simp[j]at h
  |some p=>
   obtain⟨x,l1⟩:=p
   simp only[j]at h
   have:=T4 k.1 j
   subst this
   cases B:eZ l1 ts with
   |none=>simp[B]at h
   |some q=>
    obtain⟨xs,G⟩:=q
    simp only[B,Option.some.injEq,Prod.mk.injEq]at h
    rw[(T2 F k.1 j).1]
    simp only[AT ts F k.2 B,h.1]
end
end Go.af
namespace Go.af
open Go Go.RowKit
variable [aL]
def bA(P:Program)(w0:World)(I0:aq)(o:Oper)(ρ:Operand→Value)(w:World)(I:aq)(m:Nat→Value)(l L:List AO)(nid:Nat)(r:R):Prop:=
 match r.bM with
 |.none=>bI P ((execOp ρ o).run P w) λv w'=>∃J,Le I m L J m L∧av w0 I0 w' J m L∧ah J m L v r.t
 |.new a=>L[nid]?=some .dead→bI P ((execOp ρ o).run P w) λv w'=>∃m',Le I m L I m' (L.set nid a)∧av w0 I0 w' I m' (L.set nid a)∧ah I m' (L.set nid a) v r.t
 |.aC l'=>L=l→nid=l.length→bI P ((execOp ρ o).run P w) λv w'=>∃J m',Le I m l J m' l'∧av w0 I0 w' J m' l'∧ah J m' l' v r.t
section
variable {P:Program}{V:Env}{w0 w:World}{I0 I:aq}{m:Nat→Value}{l L:List AO}{nid:Nat}{o:Oper}{ρ:Operand→Value}{ρT:Operand→T}
theorem bA.val(B:av w0 I0 w I m L){r:R}{u:Value}(j:r.bM=.none)(F:(execOp ρ o).run P w=.ok (.value u) w)(k:ah I m L u r.t):bA P w0 I0 o ρ w I m l L nid r:=by
 unfold bA
 rw[j]
 simp only[F,bI]
 exact⟨I,.refl ..,B,k⟩
theorem bn{v:Value}{x:D}(h:ah I m L v (.d x)):Rd I v x:=by cases h;assumption
theorem ve{v:Value}{pc:List (Nat×Bool×Bool)}{t:T}(h:ah I m L v (.cond pc t))(k:holds pc):ah I m L v t:=by cases h;rename_i _ j;exact j k
theorem yt(Z:av w0 I0 w I m L){c a b:Operand}(G:o.op=.pick c a b)(Y:∀x∈o.op.operands,ah I m L (ρ x) (ρT x))(j:(qU (ρT c) (ρT a) (ρT b)).ob) :
  bA P w0 I0 o ρ w I m l L nid (qU (ρT c) (ρT a) (ρT b)):=by
 have af:=Y c (by simp[G,Op.operands])
 have O:=Y a (by simp[G,Op.operands])
 have U:=Y b (by simp[G,Op.operands])
 generalize ρT c=aj at *;generalize ρT a=ag at *;generalize ρT b=ai at *
 unfold qU at j⊢
 split at j
 ·rename_i M
  have:=bn af
  generalize ad:ρ c=ak at *
  cases this
  simp only at j⊢
  split at j
  ·rename_i x p y q k B
   have aa:M=true→Rd I (ρ a) (.bool x):=by
    intro F
    split at k
    ·simp at k;obtain⟨rfl,_⟩:=k;exact bn O
    ·rename_i pc ae
     simp only[Option.some.injEq,Prod.mk.injEq]at k;obtain⟨rfl,rfl⟩:=k
     exact bn (ve O (j.1 F))
    cases k
   have ab:M=false→Rd I (ρ b) (.bool y):=by
    intro F
    split at B
    ·simp at B;obtain⟨rfl,_⟩:=B;exact bn U
    ·rename_i pc ae
     simp only[Option.some.injEq,Prod.mk.injEq]at B;obtain⟨rfl,rfl⟩:=B
     exact bn (ve U (j.2 F))
    cases B
   refine bA.val Z rfl (u:=if M=true then ρ a else ρ b) ?_ ?_
   ·unfold execOp;simp only[G,ad,asBool,Sem.run_bind,Sem.run_pure,Result.andThen_ok]
   cases M with
   |true=>simpa using ah.d _ _ (aa rfl)
   |false=>simpa using ah.d _ _ (ab rfl)
  ·rename_i x p k B
   obtain⟨F,j⟩:=j
   subst F
   have aa:Rd I (ρ a) (.bool x):=by
    split at k
    ·simp at k;obtain⟨rfl,_⟩:=k;exact bn O
    ·rename_i pc ae
     simp only[Option.some.injEq,Prod.mk.injEq]at k;obtain⟨rfl,rfl⟩:=k
     exact bn (ve O (j trivial))
    cases k
   refine bA.val Z rfl (u:=ρ a) ?_ (.d _ _ aa)
   unfold execOp;simp only[G,ad,asBool,Sem.run_bind,Sem.run_pure,Result.andThen_ok,if_true]
  ·rename_i y q k B
   obtain⟨F,j⟩:=j
   subst F
   have ab:Rd I (ρ b) (.bool y):=by
    split at B
    ·simp at B;obtain⟨rfl,_⟩:=B;exact bn U
    ·rename_i pc ae
     simp only[Option.some.injEq,Prod.mk.injEq]at B;obtain⟨rfl,rfl⟩:=B
     exact bn (ve U (j trivial))
    cases B
   refine bA.val Z rfl (u:=ρ b) ?_ (.d _ _ ab)
   unfold execOp;simp only[G,ad,asBool,Sem.run_bind,Sem.run_pure,Result.andThen_ok,Bool.false_eq_true,if_false]
  exact j.elim
 exact j.elim
theorem Bn{v:Value}{x:T}(ai:ah I m L v x)(U:(bh x).all T.fh=true):v.cells.toList.length=(bh x).length∧(∀u∈v.cells.toList,u.oneCell'=true)∧∀(i:Nat) u t,v.cells.toList[i]?=some u→(bh x)[i]?=some t→ah I m L u t:=by
 have one:∀(u:Value),u.oneCell'=true→u.cells.toList=[u]:=λu F=>by cases u<;>simp_all [Value.oneCell',Value.cells]
 have G:∀(t:T),bh t=[t]→ah I m L v t→v.oneCell'=true→v.cells.toList.length=(bh t).length∧(∀u∈v.cells.toList,u.oneCell'=true)∧∀(i:Nat) u s,v.cells.toList[i]?=some u→(bh t)[i]?=some s→ah I m L u s:=by
  intro t O ag ae
  rw[one v ae,O]
  refine⟨rfl,by simpa using ae,λi u s F ad=>?_⟩
  rcases i with _|i
  ·simp at F ad;subst F;subst ad;exact ag
  simp at F
 cases ai with
 |undef=>simp[bh,T.fh]at U
 |d _ d af=>
  by_cases O:∃ds,d=.aw ds
  ·obtain⟨ds,rfl⟩:=O;simp[bh,D.cells,T.fh,D.one]at U
  obtain⟨j,B,M⟩:=af.cells (λds e=>O ⟨ds,e⟩)
  refine⟨by simp[bh,j],λu F=>?_,λi u t F Y=>?_⟩
  ·obtain⟨i,hi,rfl⟩:=List.mem_iff_getElem.1 F
   have ab:i<d.cells.length:=by simp at hi;omega
   exact(M i _ d.cells[i] (by rw[←Array.getElem?_toList];exact List.getElem?_eq_getElem hi) (List.getElem?_eq_getElem ab)).one (B _ (List.getElem_mem ab))
  simp only[bh,List.getElem?_map]at Y
  cases Z:d.cells[i]? with
  |none=>simp[Z]at Y
  |some y=>
   simp[Z]at Y
   subst Y
   exact .d _ _ (M i u y (by simpa using F) Z)
 |aX s=>exact G _ rfl (.aX s) rfl
 |ptr id b off j B=>exact G _ rfl (.ptr id b off j B) rfl
 |aS b o size els k off val j B M aa=>exact G _ rfl (.aS b o size els k off val j B M aa) rfl
 |aw=>simp[bh,T.fh]at U
 |cond=>simp[bh,T.fh]at U
 |row A n c id j B=>exact G _ rfl (.row A n c id j B) rfl
 |aQ A n c id x j B M=>exact G _ rfl (.aQ A n c id x j B M) rfl
 |aO a id k off j B=>exact G _ rfl (.aO a id k off j B) rfl
 |map r id j B=>exact G _ rfl (.map r id j B) rfl
 |ar g vs ts j B=>exact G _ rfl (.ar g vs ts j B) rfl
 |aK id b j B=>exact G _ rfl (.aK id b j B) rfl
 |bj id b n c j B M aa=>exact G _ rfl (.bj id b n c j B M aa) rfl
 |sub A n c id lo hi j B=>exact G _ rfl (.sub A n c id lo hi j B) rfl
 |agg vs ts j B M=>
  refine⟨by simp[bh,Value.cells,j],λu F=>?_,λi u t F O=>M i u t (by simpa [Value.cells]using F) (by simpa [bh]using O)⟩
  obtain⟨i,hi,rfl⟩:=List.mem_iff_getElem.1 F
  simp only[Value.cells]at hi⊢
  exact B i _ (by rw[←Array.getElem?_toList];exact List.getElem?_eq_getElem hi)
theorem ya(k:av w0 I0 w I m L)(j:L[nid]?=some .dead){ty:TypeId}{vs:Array Value}{cs:List T}(M:vs.toList.length=cs.length)(G:∀u∈vs.toList,u.oneCell'=true)(U:∀(i:Nat) u t,vs.toList[i]?=some u→cs[i]?=some t→ah I m L u t) :
  ∃m',Le I m L I m' (L.set nid (.var ty cs))∧av w0 I0 (w.alloc (.cells vs ty)) I m' (L.set nid (.var ty cs))∧ah I m' (L.set nid (.var ty cs)) (.pointer (some ⟨w.heap.size,0,none⟩)) (.ptr nid 0):=by
 have B:Le I m L I (aC m nid (.pointer (some ⟨w.heap.size,0,none⟩))) (L.set nid (.var ty cs)):=Le.new j rfl
 have O:nid<L.length:=(List.getElem?_eq_some_iff.1 j).1
 refine⟨_,B,k.alloc _ j rfl rfl ⟨w.heap.size,vs,rfl,k.below.size,heap_alloc_new w _,by simpa using M,λi x t F Y=>?_,k.sat.cM (Nat.le_refl _)⟩,?_⟩
 ·exact⟨(U i x t (by simpa using F) Y).mono B,G x (List.mem_of_getElem? (by simpa using F:vs.toList[i]?=some x))⟩
 exact .ptr nid _ 0 (by unfold isVar;rw[List.getElem?_set,if_pos rfl,if_pos O];rfl) (cD m nid _)
theorem KI(M:av w0 I0 w I m L){e:TypeId}{x:Operand}(F:o.op=.box e x)(G:ah I m L (ρ x) (ρT x))(k:(bh (ρT x)).all T.fh=true) :
  bA P w0 I0 o ρ w I m l L nid ⟨.ptr nid 0,.new (.var e (bh (ρT x))),(bh (ρT x)).all T.fh=true⟩:=by
 intro B
 obtain⟨c1,c2,j⟩:=Bn G k
 have O:(execOp ρ o).run P w=.ok (.value (.pointer (some ⟨w.heap.size,0,none⟩))) (w.alloc (.cells (ρ x).cells e)):=by
  unfold execOp;simp[F,Instr.box,newVar,newRow]
 simp only[O,bI]
 exact ya M B c1 c2 j
theorem rX:∀{vs:List Value}{ds:List D}{j:Nat}{v:Value}{d:D},eL vs ds=true→vs[j]?=some v→ds[j]?=some d→lG v d=true
 | [],[],_,_,_,_,h,_=>by simp at h
 |v::vs,d::ds,j,u,e,h,hu,k=>by
  simp only[eL,Bool.and_eq_true]at h
  rcases j with _|j
  ·simp at hu k;subst hu;subst k;exact h.1
  simp at hu k;exact rX h.2 hu k
 | [],_::_,_,_,_,h,_,_=>by simp[eL]at h
 |_::_,[],_,_,_,h,_,_=>by simp[eL]at h
theorem Ax{v:Value}{d:D}(h:lG v d=true):ah I m L v (fX d):=by
 unfold fX
 split
 ·have:v=.slice none 0 0:=by
   cases v<;>simp[lG]at h
   rename_i a n c
   cases a<;>cases n<;>cases c<;>simp_all [lG]
  subst this;exact .aX _
 exact .d _ _ (Aw I h).1
theorem JM(hE:bw P V.E)(aa:av w0 I0 w I m L){e:TypeId}{i:TI}(Z:o.op=.alloc e)(hi:V.E e=some i) :
  bA P w0 I0 o ρ w I m l L nid ⟨.ptr nid 0,.new (.var e (i.zero.map fX)),True⟩:=by
 intro Y
 obtain⟨z,O,G,ag,ah⟩:=rE hE hi w
 obtain⟨ad,ae,af⟩:=lH I _ _ G
 have ab:(execOp ρ o).run P w=.ok (.value (.pointer (some ⟨w.heap.size,0,none⟩))) (w.alloc (.cells z.cells e)):=by
  unfold execOp;simp[Z,Instr.alloc,O,newVar,newRow]
 simp only[ab,bI]
 refine ya aa Y (by simpa using ad) (λu B=>?_) (λj u t B k=>?_)
 ·obtain⟨j,U,rfl⟩:=List.mem_iff_getElem.1 B
  have M:j<i.zero.length:=by omega
  exact(af j _ _ (List.getElem?_eq_getElem U) (List.getElem?_eq_getElem M)).one (ae _ (List.getElem_mem M))
 rw[List.getElem?_map]at k
 cases F:i.zero[j]? with
 |none=>simp[F]at k
 |some d=>simp[F]at k;subst k;exact Ax (rX G B F)
theorem Me(hE:bw P V.E){s:TypeId}{f:Nat}{v:Value}{x:T}(ak:ah I m L v x)(j:(jq V.E s f x).ob) :
  (jq V.E s f x).bM=.none∧∃u,(Instr.fieldAt s v f).run P w=.ok u w∧ah I m L u (jq V.E s f x).t:=by
 have Y:∀{a:Addr}{sz Z:Nat}{z:List D}{fs:List (Nat×TypeId)}{p:Nat×TypeId},V.E s=some ⟨sz,Z,z,.struct fs⟩→fs[f]?=some p→0<aE V.E p.2 →
   (Instr.fieldAt s (.pointer (some a)) f).run P w=.ok (.pointer (some (a.add p.1))) w:=by
  intro a sz Z z fs p G F B
  obtain⟨aa,aj,rfl⟩:=Aj hE G
  rw[List.getElem?_map]at F
  cases U:aa.toList[f]? with
  |none=>simp[U]at F
  |some g=>
   simp[U]at F
   subst F
   have ad:aa[f]?=some g:=by simpa using U
   have ai:∃n,(sizeOf g.type).run P w=.ok n w∧n≠0:=by
    cases hi:V.E g.type with
    |none=>simp[aE,hi]at B
    |some i=>exact⟨i.size,gL hE hi w,by simp[aE,hi]at B;omega⟩
   obtain⟨n,af,ag⟩:=ai
   simp[Instr.fieldAt,run_underlying aj,ad,Instr.sureAddr,fieldPlace,af,ag]
 cases ak with
 |ptr id b off M O=>
  simp only[jq]at j⊢
  split at j
  ·rename_i fs G
   split at j
   ·rename_i p F
    split at j
    ·rename_i B
     simp only[if_pos B]
     exact⟨rfl,_,Y G F B,by rw[Addr.add_mid];exact .ptr id b _ M O⟩
    exact j.elim
   exact j.elim
  exact j.elim
 |aS b o size els k off val M O al an=>
  simp only[jq]at j⊢
  split at j
  ·rename_i fs G
   split at j
   ·rename_i p F
    split at j
    ·rename_i B
     simp only[if_pos B]
     refine⟨rfl,_,Y G F B,?_⟩
     rw[Addr.add_mid,Nat.add_assoc]
     exact .aS b o size els k _ val M O al an
    exact j.elim
   exact j.elim
  exact j.elim
 |aO a id k off M O=>
  simp only[jq]at j⊢
  split at j
  ·rename_i fs G
   split at j
   ·rename_i p F
    split at j
    ·rename_i B
     simp only[if_pos B]
     refine⟨rfl,_,Y G F B,.aO _ id k _ M λe size els ae=>?_⟩
     obtain⟨b,n,c,ab,rfl⟩:=O e size els ae
     exact⟨b,n,c,ab,by rw[Addr.add_mid,Nat.add_assoc]⟩
    exact j.elim
   exact j.elim
  exact j.elim
 |_=>exact j.elim
end
end Go.af
namespace Go.af
open Go Go.RowKit
variable [aL]
section
variable {P:Program}{V:Env}{w0 w:World}{I0 I:aq}{m:Nat→Value}{l L:List AO}{nid:Nat}{o:Oper}{ρ:Operand→Value}{ρT:Operand→T}
theorem Mc(hE:bw P V.E){s:TypeId}{f:Nat}{v:Value}{x:T}(an:ah I m L v x)(k:(mX V.E s f x).ob) :
  (mX V.E s f x).bM=.none∧∃u,(Instr.field s v f).run P w=.ok u w∧ah I m L u (mX V.E s f x).t:=by
 unfold mX at k⊢
 split at k
 ·rename_i cs
  split at k
  ·rename_i fs ak
   split at k
   ·rename_i p G
    split at k
    ·rename_i i hi
     split at k
     ·rename_i ab
      simp only[if_pos ab]
      have:=bn an
      generalize F:D.agg cs=ar at this
      cases this<;>first| (cases F;done)|skip
      rename_i vs ds ao aq ag
      injection F with F;subst F
      obtain⟨Y,af,rfl⟩:=Aj hE ak
      rw[List.getElem?_map]at G
      cases U:Y.toList[f]? with
      |none=>simp[U]at G
      |some g=>
       simp[U]at G;subst G
       have aa:Y[f]?=some g:=by simpa using U
       simp only at hi ab⊢
       have Z:=Ic hE hi
       have al:=gL hE hi
       cases O:i.desc.agg with
       |true=>
        refine⟨rfl,.agg (vs.extract g.offset (g.offset+i.size)),?_,?_⟩
        ·simp only[Instr.field,Sem.run_bind,run_underlying af,Result.andThen_ok,aa,asAgg,Sem.run_pure,part,Z,O,if_true,al]
        simp only[R.ok,dY,if_true]
        refine .d _ _ (.agg _ _ (by simp[ao];omega) (λd aj=>aq d (List.mem_of_mem_drop (List.mem_of_mem_take aj))) (λj u d M B=>?_))
        rw[List.getElem?_take]at B
        split at B
        ·rename_i au
         rw[List.getElem?_drop]at B
         rw[Array.getElem?_extract]at M
         split at M
         ·exact ag _ u d M B
         cases M
        cases B
       |false=>
        have ai:=vz hE hi O
        have ad:g.offset<vs.size:=by omega
        refine⟨rfl,vs[g.offset],?_,?_⟩
        ·simp only[Instr.field,Sem.run_bind,run_underlying af,Result.andThen_ok,aa,asAgg,Sem.run_pure,part,Z,O,Bool.false_eq_true,if_false,Array.getElem?_eq_getElem ad]
        have ae:g.offset<cs.length:=by omega
        have:((cs.drop g.offset).take i.size).headD .ch=cs[g.offset]:=by
         rw[ai,List.drop_eq_getElem_cons ae];rfl
        simp only[R.ok,dY,Bool.false_eq_true,if_false,this]
        exact .d _ _ (ag g.offset _ _ (Array.getElem?_eq_getElem ad) (List.getElem?_eq_getElem ae))
     exact k.elim
    exact k.elim
   exact k.elim
  exact k.elim
 exact k.elim
theorem Jv{n:Int}(h: -9223372036854775808≤n∧n≤9223372036854775807):IntKind.i64.wrap n=n:=IntWalk.i64_in n (by omega)
theorem sj{k:IntKind}{n:Int}(h:(arith k n).2):(arith k n).1=.int k (k.wrap n):=by
 cases k<;>simp only[arith]at h⊢
 rw[Jv h]
theorem KE(O:mH P V.gJ){op:BinOp}{ty:TypeId}{x y:Operand}{u v:Value}{a b:D}(F:Rd I u a)(G:Rd I v b){r:D}{ob:Prop}(h:dM V.gJ op ty a b=some (r,ob))(j:ob) :
  ∃z,((do eqGuard op ty x y u v;binOp op ty u v:Sem Value)).run P w=.ok z w∧Rd I z r:=by
 unfold dM at h
 split at h
 ·
  rename_i k p U q
  cases F;cases G
  have Z:∀w,0≤q→((do eqGuard .shr ty x y (.int k p) (.int U q);binOp .shr ty (.int k p) (.int U q):Sem Value)).run P w=.ok (.int k (pD k p q)) w:=λw aa=>by
   have M:(eqGuard .shr ty x y (.int k p) (.int U q)).run P w=.ok () w:=by rw[eqGuard_at_int];rfl
   have:¬q<0:=by omega
   simp only[Sem.run_bind,M,Result.andThen_ok]
   simp[binOp,Op.shift,this,pD]
  split at h
  ·unfold zP at h
   split at h
   ·simp only[Option.some.injEq,Prod.mk.injEq]at h
    obtain⟨rfl,rfl⟩:=h
    exact⟨_,Z w j,.int _ _⟩
   cases h
  rename_i B
  have B:k=U:=Decidable.not_not.1 B
  subst B
  have M:∀w,(eqGuard op ty x y (.int k p) (.int k q)).run P w=.ok () w:=λw=>by rw[eqGuard_at_int];rfl
  simp only[Sem.run_bind,M,Result.andThen_ok]
  split at h<;>first| (cases h;done)|skip
  all_goals try simp only[Option.some.injEq,Prod.mk.injEq]at h
  ·obtain⟨rfl,rfl⟩:=h
   have:=Z w j
   simp only[Sem.run_bind,M,Result.andThen_ok]at this
   exact⟨_,this,.int _ _⟩
  ·obtain⟨rfl,rfl⟩:=h;exact⟨_,by simp[binOp,Op.intBits];rfl,.int _ _⟩
  ·obtain⟨rfl,rfl⟩:=h;exact⟨_,by rw[binOp_add];rfl,by rw[sj j];exact .int _ _⟩
  ·obtain⟨rfl,rfl⟩:=h;exact⟨_,by rw[binOp_sub];rfl,by rw[sj j];exact .int _ _⟩
  ·obtain⟨rfl,rfl⟩:=h;exact⟨_,by rw[binOp_mul];rfl,by rw[sj j];exact .int _ _⟩
  ·split at h
   ·simp only[Option.some.injEq,Prod.mk.injEq]at h
    obtain⟨rfl,rfl⟩:=h
    refine⟨.int .i64 (IntKind.i64.wrap (p.tdiv q)),by rw[binOp_quo];simp[Op.intDiv,j.1],?_⟩
    rw[Jv (by have:=j.2;omega)];exact .int _ _
   cases h
  ·obtain⟨rfl,rfl⟩:=h
   refine⟨.int k (p.tmod q),by rw[binOp_rem];simp[Op.intDiv,show q≠0 from j],?_⟩
   exact .int _ _
  ·obtain⟨rfl,rfl⟩:=h;exact⟨_,by rw[binOp_eql];rfl,by rw[show(p == q)=decide (p=q) by rw[Bool.eq_iff_iff];simp];exact .bool _⟩
  ·obtain⟨rfl,rfl⟩:=h;exact⟨_,by rw[binOp_neq];rfl,by rw[show(p != q) = !decide (p=q) by rw[Bool.eq_iff_iff];simp[bne]];exact .bool _⟩
  ·obtain⟨rfl,rfl⟩:=h;exact⟨_,by rw[binOp_lss];rfl,.bool _⟩
  ·obtain⟨rfl,rfl⟩:=h;exact⟨_,by rw[binOp_leq];rfl,.bool _⟩
  ·obtain⟨rfl,rfl⟩:=h;exact⟨_,by rw[binOp_gtr];rfl,.bool _⟩
  obtain⟨rfl,rfl⟩:=h;exact⟨_,by rw[binOp_geq];rfl,.bool _⟩
 ·
  rename_i p q
  split at h
  ·split at h
   ·rename_i B
    simp only[Option.some.injEq,Prod.mk.injEq]at h;obtain⟨rfl,rfl⟩:=h
    exact⟨_,O ty _ B .eql x y I u v _ _ w F G (.inl ⟨_,_,rfl,rfl,rfl⟩) (.inl rfl),by simp[jl];exact .bool _⟩
   cases h
  ·split at h
   ·rename_i B
    simp only[Option.some.injEq,Prod.mk.injEq]at h;obtain⟨rfl,rfl⟩:=h
    exact⟨_,O ty _ B .neq x y I u v _ _ w F G (.inl ⟨_,_,rfl,rfl,rfl⟩) (.inr rfl),by simp[jl];exact .bool _⟩
   cases h
  cases h
 ·
  rename_i p q
  cases F;cases G
  have M:∀w,(eqGuard op ty x y (.string p) (.string q)).run P w=.ok () w:=λw=>by rw[eqGuard_at_string];rfl
  simp only[Sem.run_bind,M,Result.andThen_ok]
  split at h<;>first| (cases h;done)|skip
  all_goals simp only[Option.some.injEq,Prod.mk.injEq]at h;obtain⟨rfl,rfl⟩:=h
  ·exact⟨.bool (p == q),by rw[beq_toListBytes];simp[binOp,Op.stringOp],.bool _⟩
  ·exact⟨.bool (!(p == q)),by rw[beq_toListBytes];simp[binOp,Op.stringOp],.bool _⟩
  exact⟨.string (p++q),by simp[binOp,Op.stringOp,j],.str _⟩
 ·
  rename_i xs ys
  split at h
  ·split at h
   ·rename_i ls B
    split at h
    ·cases h
    rename_i Y
    simp only[Option.some.injEq,Prod.mk.injEq]at h;obtain⟨rfl,rfl⟩:=h
    exact⟨_,O ty _ B .eql x y I u v _ _ w F G (.inr ⟨_,_,rfl,rfl,Y,j.1,j.2⟩) (.inl rfl),by simp[jl];exact .bool _⟩
   cases h
  ·split at h
   ·rename_i ls B
    split at h
    ·cases h
    rename_i Y
    simp only[Option.some.injEq,Prod.mk.injEq]at h;obtain⟨rfl,rfl⟩:=h
    exact⟨_,O ty _ B .neq x y I u v _ _ w F G (.inr ⟨_,_,rfl,rfl,Y,j.1,j.2⟩) (.inr rfl),by simp[jl];exact .bool _⟩
   cases h
  cases h
 cases h
theorem Ug{op:UnOp}{u:Value}{a:D}(j:Rd I u a){r:D}{ob:Prop}(h:vH op a=some (r,ob))(k:ob):∃z,(Op.unary op u).run P w=.ok z w∧Rd I z r:=by
 unfold vH at h
 split at h
 ·cases j
  split at h
  ·simp only[Option.some.injEq,Prod.mk.injEq]at h;obtain⟨rfl,rfl⟩:=h
   exact⟨_,by simp only[Op.unary,Sem.run_pure],.bool _⟩
  cases h
 ·cases j
  split at h
  ·simp only[Option.some.injEq,Prod.mk.injEq]at h;obtain⟨rfl,rfl⟩:=h
   exact⟨_,by simp[Op.unary,Op.intArith];rfl,by rw[sj k];simp;exact .int _ _⟩
  cases h
 cases h
theorem M7(hE:bw P V.E)(aA:av w0 I0 w I m L)(ax:ep l L){t:TypeId}{v ag:Value}{x i:T}(aq:ah I m L v x)(hi:ah I m L ag i)(B:(iQ V.E t l x i).ob) :
  (iQ V.E t l x i).bM=.none∧∃u,(Instr.indexAt t v ag).run P w=.ok u w∧ah I m L u (iQ V.E t l x i).t:=by
 unfold iQ at B⊢
 split at B
 ·rename_i e k n al G
  have ao:ag=.int k n:=by
   unfold cL at G
   split at G
   ·simp at G;obtain⟨rfl,rfl⟩:=G;have:=bn hi;cases this;rfl
   cases G
  subst ao
  have an:=fV hE al
  have aB:∀(a:Addr)(len ai:Nat),0≤n→n<len→∀z,(V.E e).map TI.size=some z→(Instr.indexAt t (.slice (some a) len ai) (.int k n)).run P w=.ok (.pointer (some (a.add (n.toNat*z)))) w:=by
   intro a len ai Y U z ab
   cases O:V.E e with
   |none=>simp[O]at ab
   |some ar=>
    simp[O]at ab
    simp[Instr.indexAt,run_underlying an,asIntOf,Y,U,gL hE O,ab]
  have az:∀{size:Nat},size=aE V.E e∧0<size→(V.E e).map TI.size=some size:=by
   intro size F
   unfold aE at F
   cases O:V.E e with
   |none=>simp[O]at F;omega
   |some ar=>simp[O]at F;simp[F.1]
  split at B
  ·rename_i size els
   split at B
   ·rename_i F
    simp only[if_pos F]
    obtain⟨Y,U⟩:=B
    have:=bn aq
    generalize aj:D.slice size els=aK at this
    cases this<;>first| (cases aj;done)|skip
    ·injection aj with aw ak;subst ak;simp at U;omega
    rename_i b off len c aP els' val Z aa af au aI aJ
    injection aj with aw ak;subst aw;subst ak
    refine⟨trivial,_,aB _ len c Y (by omega) size (az F),?_⟩
    rw[Addr.add_mid]
    have:=ah.aS (I:=I) (m:=m) (l:=L) b off size els n.toNat 0 val (by omega) au (λj aC=>aI j (by rw[←Z];exact aC)) aJ
    simpa using this
   exact B.elim
  ·rename_i id
   have go:∀M size els,l[id]?=some (.row M size els)∨l[id]?=some (.aM M size els)→size=aE V.E e∧0<size→0≤n∧n<els.length →
     ∃u,(Instr.indexAt t v (.int k n)).run P w=.ok u w∧ah I m L u (.aO id n.toNat 0):=by
    intro M size els ho F ⟨Y,U⟩
    have ad:L[id]?=some (.row M size els)∨L[id]?=some (.aM M size els):=by rcases ho with ho|ho;exact .inl (ax.get ho);exact .inr (ax.get ho)
    have aG:∃A ae c,v=.slice A ae c∧m id=v:=by
     cases aq with
     |row A ae c _ Z aa=>exact⟨A,ae,c,rfl,aa (by unfold isRow;rcases ad with h|h<;>simp[h,AO.isRow])⟩
    obtain⟨A,ae,c,rfl,aD⟩:=aG
    have aF:∃xs,w.ownsRow w0.heap.size M size (m id) els.length xs:=by
     rcases ad with h|h
     ·obtain⟨xs,k1,_⟩:=aA.obj id _ h;exact⟨xs,k1⟩
     obtain⟨xs,k1,_⟩:=aA.obj id _ h;exact⟨xs,k1⟩
    obtain⟨xs,k1⟩:=aF
    rcases k1.2 with ⟨_,q⟩| ⟨g,ai,cur,q,_⟩
    ·simp[q]at U;omega
    have aH:=aD.symm.trans q
    injection aH with Z aa af
    subst Z;subst aa;subst af
    refine⟨_,aB _ _ _ Y U size (az F),.aO _ id _ 0 ?_ λaL s1 aN hl=>⟨g,els.length,_,q,?_⟩⟩
    ·rcases ad with h|h<;>exact(List.getElem?_eq_some_iff.1 h).1
    have:s1=size:=by rcases ad with h|h<;>rcases hl with hl|hl<;>rw[h]at hl<;>cases hl<;>rfl
    subst this
    rw[Addr.add_mid];simp
   split at B
   ·rename_i M size els ho
    split at B
    ·rename_i F
     simp only[if_pos F]
     exact⟨trivial,go M size els (.inl ho) F B⟩
    exact B.elim
   ·rename_i M size els ho
    split at B
    ·rename_i F
     simp only[if_pos F]
     exact⟨trivial,go M size els (.inr ho) F B⟩
    exact B.elim
   exact B.elim
  exact B.elim
 ·rename_i len e k n al G
  have ao:ag=.int k n:=by
   unfold cL at G
   split at G
   ·simp at G;obtain⟨rfl,rfl⟩:=G;have:=bn hi;cases this;rfl
   cases G
  subst ao
  have an:=vJ hE al
  split at B
  ·rename_i size els q off
   split at B
   ·rename_i ay
    simp only[if_pos ay]
    obtain⟨Y,U⟩:=B
    obtain⟨ar,O⟩:=Option.isSome_iff_exists.1 ay
    cases aq with
    |aS b o _ _ _ _ val Z aa af au=>
     refine⟨trivial,.pointer (some ⟨b,o+q*size+(off+n.toNat*aE V.E e),none⟩),?_,.aS b o size els q _ val Z aa af au⟩
     have ab:aE V.E e=ar.size:=by simp[aE,O]
     simp[Instr.indexAt,Instr.sureAddr,run_underlying an,asIntOf,Y,U,gL hE O,ab,Addr.add_mid,Nat.add_assoc]
   exact B.elim
  exact B.elim
 exact B.elim
end
end Go.af
namespace Go.af
open Go Go.RowKit
variable [aL]
theorem Mi{size:Nat}(els:List D)(j:∀d∈els,d.cells.length=size)(k:Nat):flat (els.drop k)=(flat els).drop (k*size):=by
 induction els generalizing k with
 |nil=>simp[flat]
 |cons e els G=>
  have F:=j e (by simp)
  rcases k with _|k
  ·simp
  simp only[List.drop_succ_cons]
  rw[G (λd B=>j d (by simp[B])) k]
  simp only[flat,List.flatMap_cons]
  rw[show(k+1)*size=e.cells.length+k*size by rw[F,Nat.add_mul];omega,←List.drop_drop,List.drop_left]
theorem Cc{size:Nat}(els:List D)(j:∀d∈els,d.cells.length=size)(k:Nat):flat (els.take k)=(flat els).take (k*size):=by
 induction els generalizing k with
 |nil=>simp[flat]
 |cons e els G=>
  have F:=j e (by simp)
  rcases k with _|k
  ·simp[flat]
  simp only[List.take_succ_cons]
  have:=G (λd B=>j d (by simp[B])) k
  simp only[flat,List.flatMap_cons]at this⊢
  rw[show(k+1)*size=e.cells.length+k*size by rw[F,Nat.add_mul];omega,List.take_length_add_append,this]
theorem wW(a b:List D):flat (a++b)=flat a++flat b:=by simp[flat]
section
variable {P:Program}{V:Env}{w0 w:World}{I0 I:aq}{m:Nat→Value}{l L:List AO}{nid:Nat}{o:Oper}{ρ:Operand→Value}{ρT:Operand→T}
theorem HK{A:Option Addr}{n c lo hi size:Nat}{els:List D}(h:Rd I (.slice A n c) (.slice size els))(ae:lo≤hi)(M:hi≤els.length) :
  n=els.length∧n≤c∧Rd I (.slice (if c=lo then A else A.map (·.add (lo*size))) (hi-lo) (c-lo)) (.slice size ((els.take hi).drop lo)):=by
 cases h with
 |iz A c size O=>
  have:hi=0:=by simpa using M
  subst this
  have:lo=0:=by omega
  subst this
  refine⟨rfl,Nat.zero_le _,?_⟩
  simpa using Rd.iz (I:=I) _ c size O
 |slice b off n c size els val Z aa ag G ab ad=>
  refine⟨Z.symm,aa,?_⟩
  by_cases U:lo=hi
  ·subst U
   have:(els.take lo).drop lo=[]:=by simp
   rw[this,Nat.sub_self]
   exact .iz _ _ _ (by omega)
  have Y:c≠lo:=by omega
  rw[if_neg Y]
  simp only[Option.map_some,Addr.add_mid]
  have F:∀d∈els,d.cells.length=size:=λd j=>(G d j).1
  refine .slice b (off+lo*size) (hi-lo) (c-lo) size _ (λk=>val (lo*size+k)) (by simp;omega) (by omega) (by omega) (λd j=>G d (List.mem_of_mem_take (List.mem_of_mem_drop j))) (λk af=>?_) (λk x B=>?_)
  ·rw[Nat.add_assoc]
   apply ab
   have:lo*size+(hi-lo)*size=hi*size:=by rw[←Nat.add_mul];congr 1;omega
   have:hi*size≤n*size:=Nat.mul_le_mul_right _ (by omega)
   omega
  rw[Mi _ (λd j=>F d (List.mem_of_mem_take j)),Cc _ F,List.getElem?_drop,List.getElem?_take]at B
  split at B
  ·exact ad _ x B
  cases B
theorem Iz(hE:bw P V.E){t e:TypeId}{sz ai:Nat}{z:List D}(aq:V.E t=some ⟨sz,ai,z,.slice e⟩){v:Value}{x:T}{lo hi:Option Operand}(ax:ah I m L v x)(ae:∀a,lo=some a→ah I m L (ρ a) (ρT a))(ab:∀a,hi=some a→ah I m L (ρ a) (ρT a))(av:∀size els,x=.d (.slice size els)→size=aE V.E e∧(V.E e).isSome=true)(j:(jI x (lo.map ρT) (hi.map ρT)).ob) :
  (jI x (lo.map ρT) (hi.map ρT)).bM=.none∧∃u,(Instr.sliceAt t v (lo.map ρ) (hi.map ρ) none).run P w=.ok u w∧ah I m L u (jI x (lo.map ρT) (hi.map ρT)).t:=by
 have ag:=fV hE aq
 have F:P.underlying t=some (.slice (P.elem t)):=by simp[Program.elem,ag]
 have an:P.elem t=e:=by simp[Program.elem,ag]
 have hint:∀{a:T}{k:IntKind}{n:Int}{v:Value},cL a=some (k,n)→ah I m L v a→v=.int k n:=by
  intro a k n v B ao
  unfold cL at B
  split at B
  ·simp at B;obtain⟨rfl,rfl⟩:=B;have:=bn ao;cases this;rfl
  cases B
 unfold jI at j⊢
 split at j
 ·rename_i size els
  obtain⟨ar,au⟩:=av size els rfl
  have aa:=bn ax
  obtain⟨A,n,c,rfl⟩:∃A n c,v=.slice A n c:=by cases aa<;>exact⟨_,_,_,rfl⟩
  obtain⟨az,ad⟩:=Option.isSome_iff_exists.1 au
  have ay:az.size=size:=by rw[ar];simp[aE,ad]
  have U:(sizeOf (P.elem t)).run P w=.ok size w:=by rw[an,gL hE ad,ay]
  have O:∀a b,(Instr.sliceAt t (.slice A n c) a b none).run P w=(Instr.slice t (.slice A n c) a b none).run P w:=λa b=>run_sliceAt_slice w t _ a b none F
  have M:∀lo hi:Nat,lo≤hi→hi≤els.length→ah I m L (sliced A lo hi c size) (.d (.slice size ((els.take hi).drop lo))):=by
   intro lo hi aj ak
   obtain⟨_,_,al⟩:=HK aa aj ak
   refine .d _ _ ?_
   simpa [sliced]using al
  obtain⟨af,aA,_⟩:=HK aa (Nat.zero_le els.length) (Nat.le_refl _)
  cases lo with
  |none=>
   cases hi with
   |none=>
    simp only[Option.map_none]at j⊢
    refine⟨rfl,_,by rw[O,run_slice_all w t A n c F,U];rfl,?_⟩
    have:=M 0 els.length (Nat.zero_le _) (Nat.le_refl _)
    rw[af]
    simpa [R.ok]using this
   |some b=>
    simp only[Option.map_none,Option.map_some]at j⊢
    split at j
    ·rename_i k h Z
     have G:=hint Z (ab b rfl)
     simp only
     refine⟨trivial,_,by rw[O,G,run_slice_h w t A n c F _ _ j.1 (by omega),U];rfl,?_⟩
     have:=M 0 h.toNat (Nat.zero_le _) (by omega)
     simpa using this
    exact j.elim
  |some a=>
   cases hi with
   |none=>
    simp only[Option.map_none,Option.map_some]at j⊢
    split at j
    ·rename_i k h Y
     have G:=hint Y (ae a rfl)
     simp only
     refine⟨trivial,_,by rw[O,G,run_slice_l w t A n c F _ _ j.1 (by omega),U];rfl,?_⟩
     have:=M h.toNat els.length (by omega) (Nat.le_refl _)
     rw[af]
     simpa using this
    exact j.elim
   |some b=>
    simp only[Option.map_some]at j⊢
    split at j
    ·rename_i k g aB h Y Z
     have G:=hint Y (ae a rfl)
     have aw:=hint Z (ab b rfl)
     simp only
     refine⟨trivial,_,by rw[O,G,aw,run_slice_lh w t A n c F _ _ _ _ j.1 j.2.1 (by omega),U];rfl,?_⟩
     exact M g.toNat h.toNat (by omega) (by omega)
    exact j.elim
 exact j.elim
end
end Go.af
namespace Go.af
open Go Go.RowKit
variable [aL]
section
variable {P:Program}{V:Env}{w0 w:World}{I0 I:aq}{m:Nat→Value}{l L:List AO}
theorem wY{size:Nat}:∀(els:List D)(k:Nat)(x:D),(∀d∈els,d.cells.length=size)→k<els.length→flat (els.set k x)=(flat els).take (k*size)++x.cells++(flat els).drop (k*size+size)
 | [],k,x,_,hk=>by simp at hk
 |d::els,0,x,j,_=>by
  have B:=j d (by simp)
  simp[flat,←B,List.drop_append]
 |d::els,k+1,x,j,hk=>by
  have B:=j d (by simp)
  have U:=wY els k x (λy O=>j y (by simp[O])) (by simpa using hk)
  have F:(k+1)*size=d.cells.length+k*size:=by rw[B,Nat.succ_mul,Nat.add_comm]
  have G:flat (d::els)=d.cells++flat els:=by simp[flat]
  have M:flat (d::els.set k x)=d.cells++flat (els.set k x):=by simp[flat]
  rw[List.set_cons_succ,M,U,G,F,List.take_append,List.drop_append]
  simp[List.take_of_length_le,Nat.add_sub_cancel_left,List.append_assoc,show d.cells.length+k*size+size-d.cells.length=k*size+size by omega,List.drop_of_length_le (show d.cells.length≤d.cells.length+k*size+size by omega)]
theorem z6{α:Type}(A V:List α)(p s N:Nat)(B:p+s≤N)(j:N≤A.length)(k:V.length=s):(A.take p++V++A.drop (p+s)).take N=(A.take N).take p++V++(A.take N).drop (p+s):=by
 apply List.ext_getElem?
 intro i
 simp only[List.getElem?_take,List.getElem?_append,List.length_append,List.length_take,List.getElem?_drop,k,Nat.min_eq_left (show p≤A.length by omega),Nat.min_eq_left j,Nat.min_eq_left (show p≤N by omega)]
 by_cases a:i<N
 ·by_cases b:i<p
  ·simp[a,b,show i<p+s by omega]
  by_cases c:i<p+s
  ·simp[a,b,c]
  simp[a,b,c,show p+s+(i-(p+s))<N by omega]
 simp[a,show ¬i<p by omega,show ¬i<p+s by omega,show ¬p+s+(i-(p+s))<N by omega]
theorem av.vB(F:av w0 I0 w I m l){id b e size n c:Nat}{els els':List D}{cur new:Array Value}{xs:List Value}(G:l[id]?=some (.row e size els))(aa:m id=.slice (some ⟨b,0,none⟩) n c)(ay:w.heap[b]?=some (.cells cur e (0,0)))(aw:(w.setRow b new).ownsRow w0.heap.size e size (.slice (some ⟨b,0,none⟩) n c) els'.length xs)(ax:∀d∈els',d.cells.length=size∧∀x∈d.cells,x.one=true)(au:∀(j:Nat) x y,xs[j]?=some x→(flat els')[j]?=some y→Rd I x y) :
  Le I m l I m (l.set id (.row e size els'))∧av w0 I0 (w.setRow b new) I m (l.set id (.row e size els')):=by
 obtain⟨aF,k1,k2,aD,az⟩:=F.obj id _ G
 have af:id<l.length:=(List.getElem?_eq_some_iff.1 G).1
 have ab:I.cM b:=az b (by rw[aa];rfl)
 have aC:w0.heap.size≤b:=((F.obj id _ G).lt (by simp) (by rw[aa];rfl)).2
 have ah:Le I m l I m (l.set id (.row e size els')):=by
  refine⟨.refl I,by simp,λk _ Z=>⟨(iS (o':=.row e size els') G rfl k).trans Z,rfl⟩,λk _ Z=>⟨(iR (o':=.row e size els') G rfl k).symm.trans Z,rfl⟩,λk aA aE aj Z hh=>?_⟩
  by_cases ag:k=id
  ·subst ag;rw[List.getElem?_set,if_pos rfl,if_pos af]at hh
   rcases hh with hh|hh
   ·injection hh with hh;injection hh with al an aB;subst al;subst an;exact⟨els,.inl G⟩
   cases hh
  rw[List.getElem?_set,if_neg (Ne.symm ag)]at hh;exact⟨aj,hh⟩
 refine⟨ah,⟨F.below.trans ⟨rfl,rfl,rfl,by simp[World.setRow],λk Z=>setRow_other w b _ new (by omega),λ_=>Nat.le_refl _⟩,⟨λB o u O=>?_,λB ak O=>?_,λB Y=>(setRow_other w b _ new (λe=>by subst e;exact F.sat.ig ay (by simp) Y)).trans (F.sat.df B Y),F.sat.c9⟩,F.ext,λj o M=>?_,λi j B ar hi M ao aq=>?_⟩⟩
 ·have ae:B≠b:=by rintro rfl;rw[ab.1]at O;cases O
  exact(World.cell?_of_block (w:=w) (a:=⟨B,o,none⟩) (setRow_other w b _ new ae)).trans (F.sat.cell B o u O)
 ·have ae:B≠b:=by rintro rfl;rw[ab.2]at O;cases O
  have hh:=F.sat.mp B ak O
  exact MapAt.to (setRow_other w b _ new ae) hh
 ·by_cases ad:j=id
  ·subst ad
   rw[List.getElem?_set,if_pos rfl,if_pos af]at M
   injection M with M;subst M
   rw[aa]
   exact⟨xs,aw,ax,au,λB U=>by injection U with U;subst U;exact ab⟩
  rw[List.getElem?_set,if_neg (Ne.symm ad)]at M
  by_cases Y:o=.dead
  ·subst Y;trivial
  refine(F.obj j o M).dD ah (λB U=>setRow_other w b _ new ?_) (λ_ _=>⟨rfl,rfl⟩) (.set (λB u ai=>setRow_other w b _ new (λe=>by subst e;rw[ab.1]at ai;cases ai)) (λh=>by cases h))
  rintro rfl
  exact F.sep j id B ad (bg.2 ⟨o,M,Y⟩) (bg.2 ⟨_,G,by simp⟩) U (by rw[aa];rfl)
 refine F.sep i j B ar ?_ ?_ ao aq
 ·unfold alive at hi⊢;rwa [iS (o':=.row e size els') G rfl,iR (o':=.row e size els') G rfl]at hi
 unfold alive at M⊢;rwa [iS (o':=.row e size els') G rfl,iR (o':=.row e size els') G rfl]at M
theorem SD(hE:bw P V.E)(ao:av w0 I0 w I m l){id k:Nat}{ty e size:Nat}{els:List D}{x:D}{v:Value}{a:Addr}(ab:l[id]?=some (.row e size els))(ay:ah I m l (.pointer (some a)) (.aO id k 0))(aQ:Rd I v x)(Y:x.cells.length=size)(ax:x.cells.all D.one=true)(ai:k<els.length)(ak:x.cells.length=aE V.E ty)(aW:0<x.cells.length) :
  ∃w',(Instr.storeAt ty (.pointer (some a)) v).run P w=.ok () w'∧Le I m l I m (l.set id (.row e size (els.set k x)))∧av w0 I0 w' I m (l.set id (.row e size (els.set k x))):=by
 obtain⟨b,n,c,aj,az⟩:∃b n c,m id=.slice (some ⟨b,0,none⟩) n c∧a=⟨b,k*size+0,none⟩:=by
  cases ay with
  |aO _ _ _ _ ar U=>exact U e size els (.inl ab)
 subst az
 obtain⟨xs,k1,k2,aq,aX⟩:=ao.obj id _ ab
 rw[aj]at k1
 obtain⟨aR,aC⟩:=k1
 rcases aC with ⟨ad,_⟩| ⟨g,aU,cur,ad,aA,Z,al,aB,ae,aM⟩
 ·cases ad
 injection ad with O aN aP
 injection O with O;injection O with O;subst O;subst aN;subst aP
 have aL:∀ds,x ≠ .aw ds:=λds e=>by subst e;simp[D.cells,D.one]at ax
 obtain⟨ar,U,au⟩:=aQ.cells aL
 have aI:∀u∈v.cells.toList,u.oneCell'=true:=by
  intro u B
  obtain⟨i,hi,rfl⟩:=List.mem_iff_getElem.1 B
  have af:i<x.cells.length:=by simp at hi;omega
  exact(au i _ x.cells[i] (by rw[←Array.getElem?_toList];exact List.getElem?_eq_getElem hi) (List.getElem?_eq_getElem af)).one (U _ (List.getElem_mem af))
 have M:v.cells.toList.length=size:=by simp[ar,Y]
 have aD:k*size+size≤els.length*size:=by
  have:(k+1)*size≤els.length*size:=Nat.mul_le_mul_right _ ai
  rw[Nat.succ_mul]at this;exact this
 have aF:els.length*size≤cur.size:=by rw[ae];exact Nat.mul_le_mul_right _ al
 have aJ:(sizeOf ty).run P w=.ok v.cells.size w:=by
  cases hi:V.E ty with
  |none=>simp only[aE,hi,Option.map_none,Option.getD_none]at ak;omega
  |some i=>
   rw[gL hE hi w]
   simp only[aE,hi,Option.map_some,Option.getD_some]at ak
   congr 1;omega
 have aK:=run_storeCells_at P b (k*size) e v.cells.toList 0 cur w Z (by rw[M];omega) aI
 refine⟨_,by simp only[Instr.storeAt,Instr.sureAddr,Sem.run_bind,Sem.run_pure,Result.andThen_ok,storeVar,aJ,ne_eq,not_true_eq_false,if_false,Nat.add_zero];exact aK,?_⟩
 simp only[Nat.add_zero,M]
 generalize aG:(cur.toList.take (k*size)++v.cells.toList++cur.toList.drop (k*size+size)).toArray=new
 have an:new.toList=cur.toList.take (k*size)++v.cells.toList++cur.toList.drop (k*size+size):=by subst aG;simp
 have aH:new.size=cur.size:=by
  rw[←Array.length_toList,an]
  simp only[List.length_append,List.length_take,List.length_drop,Array.length_toList,M]at *
  omega
 have aS:new.toList.take (els.length*size)=xs.take (k*size)++v.cells.toList++xs.drop (k*size+size):=by
  rw[an,←aM]
  exact z6 _ _ _ _ _ aD (by rw[Array.length_toList];exact aF) M
 refine ao.vB (n:=els.length) (c:=c) (cur:=cur) (xs:=xs.take (k*size)++v.cells.toList++xs.drop (k*size+size)) ab aj Z ⟨?_,.inr ⟨b,c,new,?_,aA,setRow_heap w b cur new e (0,0) Z,?_,aB,by rw[aH,ae],?_⟩⟩ ?_ ?_
 ·simp only[List.length_append,List.length_take,List.length_drop,aR,M,List.length_set];omega
 ·simp
 ·simpa using al
 ·rw[List.length_set];exact aS
 ·intro d G
  rcases List.mem_or_eq_of_mem_set G with G|rfl
  ·exact k2 d G
  exact⟨Y,U⟩
 intro j u y B F
 rw[wY els k x (λd G=>(k2 d G).1) ai]at F
 have aV:(flat els).length=els.length*size:=fD els (λd G=>(k2 d G).1)
 rw[List.append_assoc,List.getElem?_append]at B F
 have l1:(xs.take (k*size)).length=k*size:=by rw[List.length_take];omega
 have aT:((flat els).take (k*size)).length=k*size:=by rw[List.length_take];omega
 rw[l1]at B;rw[aT]at F
 by_cases aa:j<k*size
 ·rw[if_pos aa]at B F
  rw[List.getElem?_take,if_pos aa]at B F
  exact aq j u y B F
 rw[if_neg aa]at B F
 rw[List.getElem?_append]at B F
 rw[M]at B;rw[Y]at F
 by_cases ag:j-k*size<size
 ·rw[if_pos ag]at B F
  exact au _ u y (by simpa using B) F
 rw[if_neg ag]at B F
 rw[List.getElem?_drop]at B F
 exact aq _ u y B F
theorem Mj{size:Nat}{els:List D}(G:∀d∈els,d.cells.length=size){k off:Nat}{d:D}(F:els[k]?=some d){X:List D}(Z:off+X.length≤size) :
  (flat els).take (k*size)++(d.cells.take off++X++d.cells.drop (off+X.length))++(flat els).drop (k*size+size)=(flat els).take (k*size+off)++X++(flat els).drop (k*size+(off+X.length)):=by
 have B:=G d (List.mem_of_getElem? F)
 obtain⟨M,rfl⟩:=List.getElem?_eq_some_iff.1 F
 have e:flat els=flat (els.take k)++(els[k].cells++flat (els.drop (k+1))):=by
  conv=>lhs;rw[←List.take_append_drop k els]
  unfold flat
  rw[List.flatMap_append,List.drop_eq_getElem_cons M,List.flatMap_cons]
 have j:(flat (els.take k)).length=k*size:=by rw[fD (els.take k) (λd B=>G d (List.mem_of_mem_take B)),List.length_take];congr 1;omega
 rw[e]
 have O:(flat (els.take k)++(els[k].cells++flat (els.drop (k+1)))).take (k*size)=flat (els.take k):=by rw[←j];simp
 have t2:(flat (els.take k)++(els[k].cells++flat (els.drop (k+1)))).drop (k*size+size)=flat (els.drop (k+1)):=by rw[←j,←B];simp
 have U:(flat (els.take k)++(els[k].cells++flat (els.drop (k+1)))).take (k*size+off)=flat (els.take k)++els[k].cells.take off:=by
  rw[←j,List.take_append,List.take_of_length_le (by omega),Nat.add_sub_cancel_left,List.take_append_of_le_length (by omega)]
 have Y:(flat (els.take k)++(els[k].cells++flat (els.drop (k+1)))).drop (k*size+(off+X.length))=els[k].cells.drop (off+X.length)++flat (els.drop (k+1)):=by
  rw[←j,List.drop_append,List.drop_eq_nil_of_le (by omega),Nat.add_sub_cancel_left,List.drop_append_of_le_length (by omega),List.nil_append]
 rw[O,t2,U,Y]
 simp
theorem H4(hE:bw P V.E)(aq:av w0 I0 w I m l){id k off:Nat}{ty e size:Nat}{els cs:List D}{x:D}{v:Value}{a:Addr}(ad:l[id]?=some (.row e size els))(az:ah I m l (.pointer (some a)) (.aO id k off))(aS:Rd I v x)(O:els[k]?=some (.agg cs))(aI:off+x.cells.length≤size)(ay:x.cells.all D.one=true)(aj:k<els.length)(al:x.cells.length=aE V.E ty)(a1:0<x.cells.length) :
  ∃w',(Instr.storeAt ty (.pointer (some a)) v).run P w=.ok () w'∧Le I m l I m (l.set id (.row e size (els.set k (.agg (setAt cs off x.cells)))))∧av w0 I0 w' I m (l.set id (.row e size (els.set k (.agg (setAt cs off x.cells))))):=by
 obtain⟨b,n,c,ak,aA⟩:∃b n c,m id=.slice (some ⟨b,0,none⟩) n c∧a=⟨b,k*size+off,none⟩:=by
  cases az with
  |aO _ _ _ _ au Y=>exact Y e size els (.inl ad)
 subst aA
 obtain⟨xs,k1,k2,ar,a6⟩:=aq.obj id _ ad
 rw[ak]at k1
 obtain⟨aT,aD⟩:=k1
 rcases aD with ⟨ae,_⟩| ⟨g,aW,cur,ae,aB,aa,an,aC,af,aP⟩
 ·cases ae
 injection ae with M aQ aR
 injection M with M;injection M with M;subst M;subst aQ;subst aR
 have aN:∀ds,x ≠ .aw ds:=λds e=>by subst e;simp[D.cells,D.one]at ay
 obtain⟨au,Y,ax⟩:=aS.cells aN
 have aJ:∀u∈v.cells.toList,u.oneCell'=true:=by
  intro u B
  obtain⟨i,hi,rfl⟩:=List.mem_iff_getElem.1 B
  have ag:i<x.cells.length:=by simp at hi;omega
  exact(ax i _ x.cells[i] (by rw[←Array.getElem?_toList];exact List.getElem?_eq_getElem hi) (List.getElem?_eq_getElem ag)).one (Y _ (List.getElem_mem ag))
 obtain⟨c0,Z⟩:∃c0,c0=x.cells.length:=⟨_,rfl⟩
 have F:v.cells.toList.length=c0:=by simp[au,Z]
 have aZ:k*size+size≤els.length*size:=by
  have:(k+1)*size≤els.length*size:=Nat.mul_le_mul_right _ aj
  rw[Nat.succ_mul]at this;exact this
 have aF:els.length*size≤cur.size:=by rw[af];exact Nat.mul_le_mul_right _ an
 have aK:(sizeOf ty).run P w=.ok v.cells.size w:=by
  cases hi:V.E ty with
  |none=>simp only[aE,hi,Option.map_none,Option.getD_none]at al;omega
  |some i=>
   rw[gL hE hi w]
   simp only[aE,hi,Option.map_some,Option.getD_some]at al
   congr 1;omega
 have aM:=run_storeCells_at P b (k*size+off) e v.cells.toList 0 cur w aa (by rw[F];omega) aJ
 refine⟨_,by simp only[Instr.storeAt,Instr.sureAddr,Sem.run_bind,Sem.run_pure,Result.andThen_ok,storeVar,aK,ne_eq,not_true_eq_false,if_false,Nat.add_zero];exact aM,?_⟩
 simp only[Nat.add_zero,F]
 generalize aG:(cur.toList.take (k*size+off)++v.cells.toList++cur.toList.drop (k*size+off+c0)).toArray=new
 have ao:new.toList=cur.toList.take (k*size+off)++v.cells.toList++cur.toList.drop (k*size+off+c0):=by subst aG;simp
 have aH:new.size=cur.size:=by
  rw[←Array.length_toList,ao]
  simp only[List.length_append,List.length_take,List.length_drop,Array.length_toList,F]at *
  omega
 have aU:new.toList.take (els.length*size)=xs.take (k*size+off)++v.cells.toList++xs.drop (k*size+off+c0):=by
  rw[ao,←aP]
  exact z6 _ _ _ _ _ (by omega) (by rw[Array.length_toList];exact aF) F
 have U:∀d∈els,d.cells.length=size:=λd G=>(k2 d G).1
 have aX:cs.length=size:=U (.agg cs) (List.mem_of_getElem? O)
 have aL:(setAt cs off x.cells).length=size:=by unfold setAt;simp;omega
 refine aq.vB (n:=els.length) (c:=c) (cur:=cur) (xs:=xs.take (k*size+off)++v.cells.toList++xs.drop (k*size+off+c0)) ad ak aa ⟨?_,.inr ⟨b,c,new,?_,aB,setRow_heap w b cur new e (0,0) aa,?_,aC,by rw[aH,af],?_⟩⟩ ?_ ?_
 ·simp only[List.length_append,List.length_take,List.length_drop,aT,F,List.length_set];omega
 ·simp
 ·simpa using an
 ·rw[List.length_set];exact aU
 ·intro d G
  rcases List.mem_or_eq_of_mem_set G with G|rfl
  ·exact k2 d G
  refine⟨aL,λy hy=>?_⟩
  have hy:y∈setAt cs off x.cells:=hy
  unfold setAt at hy
  rcases List.mem_append.1 hy with hy|hy
  ·rcases List.mem_append.1 hy with hy|hy
   ·exact(k2 _ (List.mem_of_getElem? O)).2 y (List.mem_of_mem_take hy)
   exact Y y hy
  exact(k2 _ (List.mem_of_getElem? O)).2 y (List.mem_of_mem_drop hy)
 intro j u y B hy
 rw[wY els k _ U aj]at hy
 have hy:((flat els).take (k*size)++(cs.take off++x.cells++cs.drop (off+x.cells.length))++(flat els).drop (k*size+size))[j]?=some y:=by
  simpa [D.cells,setAt]using hy
 rw[show cs=(D.agg cs).cells from rfl,Mj U O aI]at hy
 rw[Nat.add_assoc]at B
 rw[←Z]at hy
 have aY:(flat els).length=els.length*size:=fD els U
 rw[List.append_assoc,List.getElem?_append]at B hy
 have l1:(xs.take (k*size+off)).length=k*size+off:=by rw[List.length_take];omega
 have aV:((flat els).take (k*size+off)).length=k*size+off:=by rw[List.length_take];omega
 rw[l1]at B;rw[aV]at hy
 by_cases ab:j<k*size+off
 ·rw[if_pos ab]at B hy
  rw[List.getElem?_take,if_pos ab]at B hy
  exact ar j u y B hy
 rw[if_neg ab]at B hy
 rw[List.getElem?_append]at B hy
 rw[F]at B;rw[←Z]at hy
 by_cases ai:j-(k*size+off)<c0
 ·rw[if_pos ai]at B hy
  exact ax _ u y (by simpa using B) hy
 rw[if_neg ai]at B hy
 rw[List.getElem?_drop]at B hy
 exact ar _ u y B hy
end
end Go.af
namespace Go.af
open Go Go.RowKit
variable [aL]
def Cells(I:aq)(vs:List Value)(ds:List D):Prop:=vs.length=ds.length∧(∀d∈ds,d.one=true)∧∀(i:Nat) v d,vs[i]?=some v→ds[i]?=some d→Rd I v d
def kJ(I:aq)(m:Nat→Value)(L:List AO)(vs:List Value)(ts:List T):Prop:=vs.length=ts.length∧(∀v∈vs,v.oneCell'=true)∧∀(i:Nat) v t,vs[i]?=some v→ts[i]?=some t→ah I m L v t
theorem kJ.set{I:aq}{m:Nat→Value}{L:List AO}{vs xs:List Value}{ds ys:List T}{off:Nat}(h:kJ I m L vs ds)(k:kJ I m L xs ys)(Y:off+ys.length≤ds.length) :
  kJ I m L (vs.take off++xs++vs.drop (off+xs.length)) (setAt ds off ys):=by
 obtain⟨U,B,F⟩:=h
 obtain⟨k1,k2,M⟩:=k
 refine⟨by simp[setAt];omega,λd hd=>?_,λi v d j hd=>?_⟩
 ·simp only[List.mem_append]at hd
  rcases hd with (hd|hd)|hd
  ·exact B d (List.mem_of_mem_take hd)
  ·exact k2 d hd
  exact B d (List.mem_of_mem_drop hd)
 have l1:(vs.take off).length=off:=by simp;omega
 have O:(ds.take off).length=off:=by simp;omega
 rw[List.append_assoc,List.getElem?_append,l1]at j
 rw[setAt,List.append_assoc,List.getElem?_append,O]at hd
 by_cases hi:i<off
 ·rw[if_pos hi,List.getElem?_take,if_pos hi]at j hd
  exact F i v d j hd
 rw[if_neg hi,List.getElem?_append]at j hd
 rw[k1]at j
 by_cases G:i-off<ys.length
 ·rw[if_pos G]at j hd;exact M _ v d j hd
 rw[if_neg G,List.getElem?_drop]at j hd;exact F _ v d j hd
section
variable {P:Program}{V:Env}{w0 w:World}{I0 I:aq}{m:Nat→Value}{l L:List AO}{nid:Nat}{o:Oper}{ρ:Operand→Value}{ρT:Operand→T}
theorem HJ{v:Value}{d:D}(h:Rd I v d)(j:d.cells.all D.one=true):Cells I v.cells.toList d.cells:=by
 have k:∀ds,d ≠ .aw ds:=λds e=>by subst e;simp[D.cells,D.one]at j
 obtain⟨G,M,O⟩:=h.cells k
 exact⟨by simpa using G,M,λi u x B F=>O i u x (by simpa using B) F⟩
theorem dU(M:Nat→Option (Nat×Nat)):∀(F:List (Nat×Operand))(cells:Array Value)(ds j:List T),kJ I m L cells.toList ds→(∀p∈F,ah I m L (ρ p.2) (ρT p.2)) →
  j7 M ds (F.map λp=>(p.1,ρT p.2))=some j→∃G,Instr.fill M cells (F.map λp=>(p.1,ρ p.2))=some G∧kJ I m L G.toList j
 | [],cells,ds,j,B,_,h=>by
  simp[j7]at h;subst h
  exact⟨cells,rfl,B⟩
 |p::F,cells,ds,j,B,aa,h=>by
  simp only[List.map_cons,j7]at h
  cases U:M p.1 with
  |none=>simp[U]at h
  |some an=>
    obtain⟨off,size⟩:=an
    simp only[U]at h
    split at h
    ·rename_i ai
     obtain⟨c1,c2,ab⟩:=Bn (aa p (by simp)) ai.2.2
     have Z:kJ I m L (ρ p.2).cells.toList (bh (ρT p.2)):=⟨c1,c2,ab⟩
     have al:(ρ p.2).cells.size=size:=by have:=Z.1;simp at this;omega
     have aq:off+(ρ p.2).cells.size≤cells.size:=by have:=B.1;simp at this;omega
     obtain⟨ao,ad⟩:=Great.foldl_set off (ρ p.2).cells.toList 0 cells
     generalize af:((ρ p.2).cells.toList.zipIdx 0).foldl (λcs(x:Value×Nat)=>cs.setIfInBounds (off+x.2) x.1) cells=cs at *
     have aj:cs.toList=cells.toList.take off++(ρ p.2).cells.toList++cells.toList.drop (off+(ρ p.2).cells.toList.length):=by
      apply List.ext_getElem?
      intro k
      have:=ad k
      rw[Array.getElem?_toList,this]
      have l1:(cells.toList.take off).length=off:=by simp;omega
      rw[List.append_assoc,List.getElem?_append,l1,List.getElem?_append]
      simp only[Nat.add_zero,Array.length_toList]
      by_cases O:k<off
      ·rw[if_neg (by omega),if_pos O,List.getElem?_take,if_pos O];simp
      rw[if_neg O]
      by_cases Y:k-off<(ρ p.2).cells.size
      ·rw[if_pos (by omega),if_pos Y]
      rw[if_neg (by omega),if_neg Y,List.getElem?_drop]
      rw[show off+(ρ p.2).cells.size+(k-off-(ρ p.2).cells.size)=k by omega];simp
     obtain⟨G,ag,ae⟩:=dU M F cs (setAt ds off (bh (ρT p.2))) j (by rw[aj];exact B.set Z (by have:=B.1;simp at this;omega)) (λq ak=>aa q (by simp[ak])) h
     refine⟨G,?_,ae⟩
     simp only[List.map_cons]
     unfold Instr.fill
     simp only[U]
     rw[if_neg (by simp[al];omega),←ag]
     congr 1
     rw[←af,←Array.foldl_toList,Array.toList_zipIdx]
    cases h
theorem KP(hE:bw P V.E){t:TypeId}{sz ag:Nat}{z:List D}{ds:List T}{fs:List (Nat×TypeId)}{k:Array (Nat×Operand)}(af:V.E t=some ⟨sz,ag,z,.struct fs⟩)(aw:∀p∈k.toList,ah I m L (ρ p.2) (ρT p.2))(aq:j7 (pg V.E fs) (z.map fX) (k.toList.map λp=>(p.1,ρT p.2))=some ds)(al:∀f∈fs,(V.E f.2).isSome=true) :
  ∃u,(Instr.build t (k.map λ(i,x)=>(i,ρ x))).run P w=.ok u w∧ah I m L u (eA true ds):=by
 obtain⟨ai,ax,rfl⟩:=Aj hE af
 obtain⟨x,Z,aj,aA,aB,ak,aa,aC,aD,aF⟩:=dz (hE t _ af)
 have ao:kJ I m L Z.cells.toList (z.map fX):=by
  obtain⟨k1,k2,az⟩:=lH I _ _ aa
  have k1:Z.cells.toList.length=z.length:=k1
  refine⟨by simpa using k1,λv G=>?_,λi v t G F=>?_⟩
  ·obtain⟨j,au,rfl⟩:=List.mem_iff_getElem.1 G
   have ad:j<z.length:=by omega
   exact(az j _ _ (List.getElem?_eq_getElem au) (List.getElem?_eq_getElem ad)).one (k2 _ (List.getElem_mem ad))
  rw[List.getElem?_map]at F
  cases Y:z[i]? with
  |none=>simp[Y]at F
  |some d=>simp[Y]at F;subst F;exact Ax (rX aa G Y)
 obtain⟨M,ar,U⟩:=dU (ρ:=ρ) (ρT:=ρT) (m:=m) (L:=L) (pg V.E _) k.toList Z.cells _ ds ao aw aq
 have av:∀B:List Field,(∀f∈B.map (λf=>(f.offset,f.type)),(V.E f.2).isSome=true)→B.mapM (λf=>(P.info? f.type).map λi=>(f.offset,i.size))=some (B.map λf=>(f.offset,aE V.E f.type)):=by
  intro B ab
  induction B with
  |nil=>rfl
  |cons f B ay=>
   obtain⟨i,hi⟩:=Option.isSome_iff_exists.1 (ab (f.offset,f.type) (by simp))
   obtain⟨aG,_,k1,k2,_⟩:=dz (hE _ _ hi)
   have O:(P.info? f.type).map (λi=>(f.offset,i.size))=some (f.offset,aE V.E f.type):=by
    simp only at hi
    simp[k1,k2,aE,hi]
   simp only[List.mapM_cons,O,ay (λq ae=>ab q (by simp at ae⊢;exact .inr ae)),List.map_cons]
   rfl
 have an:P.built t (k.map λ(i,x)=>(i,ρ x)).toList=some M:=by
  unfold Program.built
  simp only[aj,ax,ak,av ai.toList al]
  rw[←ar]
  have O:(k.map λ(i,x)=>(i,ρ x)).toList=k.toList.map λp=>(p.1,ρ p.2):=by simp
  rw[O]
  congr 1
  funext i
  simp only[pg,List.getElem?_toArray,List.getElem?_map,Option.map_map]
  rfl
 refine⟨_,run_build w t _ _ an,?_⟩
 have:=x6 (I:=I) (m:=m) (L:=L) (i:=⟨M.size,0,[],.struct []⟩) (vs:=M.toList) (ts:=ds) U.1 (by simp) (by simp[TD.agg]) (λj v t G F=>⟨U.2.2 j v t G F,U.2.1 v (List.mem_of_getElem? G)⟩)
 simpa [TD.agg]using this
theorem av.known(F:av w0 I0 w I m L)(e:TypeId)(cs:Array Value)(size:Nat)(ds:List D)(n:Nat)(Y:ds.length=n)(ab:∀d∈ds,d.cells.length=size∧∀x∈d.cells,x.one=true)(al:cs.size=n*size)(ag:n≤maxLen)(ah:∀(j:Nat) x y,cs[j]?=some x→(flat ds)[j]?=some y→Rd I x y) :
  ∃J,Le I m L J m L∧av w0 I0 (w.alloc (.cells cs e)) J m L∧Rd J (.slice (some ⟨w.heap.size,0,none⟩) n n) (.slice size ds):=by
 have Z:=F.sat.cM (Nat.le_refl w.heap.size)
 let J:=I.dq w.heap.size cs.toList
 have U:I.le J:=⟨λb o v B=>by
  have G:b≠w.heap.size:=by rintro rfl;rw[Z.1 o]at B;cases B
  simp[J,aq.dq,G,B],λ_ _ h=>h,λ_ h=>h⟩
 have aa:∀b,b≠w.heap.size→J.cell b=I.cell b:=λb G=>by funext o;simp[J,aq.dq,G]
 have ai:cw (w.alloc (.cells cs e)) J:=⟨λb o v B=>by
  by_cases G:b=w.heap.size
  ·subst G
   simp only[J,aq.dq,if_true]at B
   rw[World.cell?_alloc_new]
   cases M:cs[o]? with
   |none=>simp[M,Z.1 o]at B
   |some x=>simpa [M]using B
  ·rw[aa b G]at B
   rw[World.cell?_alloc_lt w _ _ (F.sat.lt B)];exact F.sat.cell b o v B,λb ad B=>by
  have ae:=F.sat.mp b ad B
  exact MapAt.to (Below.heap_alloc w _ b (F.sat.jv B)) ae,λb O=>(Below.heap_alloc w _ b (F.sat.gE O)).trans (F.sat.df b O),λg d h=>(F.sat.c9 g d h).mono U⟩
 obtain⟨aj,ak⟩:=F.call (cm.alloc (cm.refl _ _) (Nat.le_refl _) _) (.of U (λb G=>aa b (by omega)) (λ_ _=>rfl)) ai
 refine⟨J,ak,aj,.slice _ 0 n n size ds (λk=>(cs[k]?).getD undef) Y (Nat.le_refl _) ag ab (λk af=>?_) (λk x M=>?_)⟩
 ·have:cs[k]?=some (cs[k]'(by omega)):=Array.getElem?_eq_getElem (by omega)
  simp[J,aq.dq,this]
 have af:k<n*size:=by rw[←Y,←fD ds (λd O=>(ab d O).1)];exact(List.getElem?_eq_some_iff.1 M).1
 have:cs[k]?=some (cs[k]'(by omega)):=Array.getElem?_eq_getElem (by omega)
 rw[this];exact(ah k _ x this M).mono U
theorem C9:∀(ps:List (Nat×Operand))(ds:List D),(∀p∈ps,ah I m L (ρ p.2) (ρT p.2))→ps.mapM (λp=>kH (ρT p.2))=some ds→ps.length=ds.length∧∀(i:Nat) p d,ps[i]?=some p→ds[i]?=some d→Rd I (ρ p.2) d
 | [],ds,_,h=>by simp at h;subst h;simp
 |p::ps,ds,B,h=>by
  simp only[List.mapM_cons,Option.bind_eq_bind,Option.bind_eq_some_iff,Option.pure_def,Option.some.injEq]at h
  obtain⟨x,M,xs,O,rfl⟩:=h
  obtain⟨F,G⟩:=C9 ps xs (λq j=>B q (by simp[j])) O
  refine⟨by simp[F],λi q d j k=>?_⟩
  rcases i with _|i
  ·simp at j k;subst j;subst k;exact HN (B p (by simp)) M
  simp at j k;exact G i q d j k
theorem A8(hE:bw P V.E)(ax:av w0 I0 w I m L){t e:TypeId}{sz al:Nat}{z:List D}{len:Nat}{k:Array (Nat×Operand)}{ds:List D}(aC:V.E t=some ⟨sz,al,z,.slice e⟩)(aS:k.toList.length=ds.length)(aI:∀(i:Nat) p d,k.toList[i]?=some p→ds[i]?=some d→Rd I (ρ p.2) d)(ae:(V.E e).isSome=true∧0<aE V.E e)(au:len≠0)(an:k.toList.map (·.1)=List.range len∧len*aE V.E e≤16777216∧ds.all (λd=>d.cells.length == aE V.E e&&d.cells.all D.one)=true) :
  ∃w' J,(Instr.buildSlice t len (k.map λ(i,x)=>(i,ρ x))).run P w=.ok (.slice (some ⟨w.heap.size,0,none⟩) len len) w'∧Le I m L J m L∧av w0 I0 w' J m L∧Rd J (.slice (some ⟨w.heap.size,0,none⟩) len len) (.slice (aE V.E e) ds):=by
 have G:=fV hE aC
 obtain⟨aa,ao,ab⟩:=an
 obtain⟨i,hi⟩:=Option.isSome_iff_exists.1 ae.1
 obtain⟨x,Z,k1,k2,aN,aH,aO,aP,aQ,aR⟩:=dz (hE e i hi)
 have aj:aE V.E e=i.size:=by simp[aE,hi]
 rw[aj]at ao ab⊢
 have O:0<i.size:=by rw[←aj];exact ae.2
 have Y:k.toList.length=len:=by have:=congrArg List.length aa;simpa using this
 have aq:ds.length=len:=by omega
 have M:∀d∈ds,d.cells.length=i.size∧∀y∈d.cells,y.one=true:=λd B=>by
  have:=List.all_eq_true.1 ab d B
  simp only[Bool.and_eq_true,beq_iff_eq,List.all_eq_true]at this
  exact this
 have ad:∀(j:Nat) p d,k.toList[j]?=some p→ds[j]?=some d→Cells I (ρ p.2).cells.toList d.cells:=λj p d F B=>
  HJ (aI j p d F B) (List.all_eq_true.2 (M d (List.mem_of_getElem? B)).2)
 have aF:∀v∈k.toList.map (λp=>ρ p.2),v.cells.size=i.size:=by
  intro v aD
  obtain⟨p,F,rfl⟩:=List.mem_map.1 aD
  obtain⟨j,U,rfl⟩:=List.mem_iff_getElem.1 F
  have ag:j<ds.length:=by omega
  have:=(ad j _ _ (List.getElem?_eq_getElem U) (List.getElem?_eq_getElem ag)).1
  have aL:=(M _ (List.getElem_mem ag)).1
  rw[Array.length_toList]at this;omega
 obtain⟨r,ar,aA,az⟩:=Great.fill_dense O (k.toList.map λp=>ρ p.2) 0 ((Array.range (len*i.size)).map (Z.cells[· % Z.cells.size]!)) aF (by simp[Y])
 have aG:(k.map λ(i,x)=>(i,ρ x)).toList=((k.toList.map λp=>ρ p.2).zipIdx 0).map λx=>(x.2,x.1):=by
  apply List.ext_getElem?
  intro j
  simp only[Array.toList_map,List.getElem?_map,List.getElem?_zipIdx,Nat.zero_add,Option.map_map]
  cases F:k.toList[j]? with
  |none=>simp
  |some p=>
   have U:j<len:=by rw[←Y];exact(List.getElem?_eq_some_iff.1 F).1
   have:(k.toList.map (·.1))[j]?=some p.1:=by rw[List.getElem?_map,F];rfl
   rw[aa,List.getElem?_range U]at this
   injection this with this
   simp[this]
 have aB:=run_buildSlice (P:=P) w t e len (k.map λ(i,x)=>(i,ρ x)) r x Z G k1 aH (by rw[k2];omega) (by rw[k2];have:=Nat.mul_pos (Nat.pos_of_ne_zero au) O;omega) (by rw[aG,k2];exact ar)
 have ai:r.size=len*i.size:=by rw[aA];simp
 obtain⟨J,aK,aJ,aw⟩:=ax.known e r i.size ds len aq M ai (by unfold maxLen;have:len≤len*i.size:=Nat.le_mul_of_pos_right _ O;omega) (λj u y G ak=>by
  have ah:j<len*i.size:=by rw[←ai];exact(Array.getElem?_eq_some_iff.1 G).1
  rw[az j,if_pos (by simp[Y];exact ah)]at G
  simp only[Nat.sub_zero,List.getElem?_map]at G
  have aM:j/i.size<len:=Nat.div_lt_of_lt_mul (by rw[Nat.mul_comm];exact ah)
  have ay:j%i.size<i.size:=Nat.mod_lt _ O
  have F:k.toList[j/i.size]?=some (k.toList[j/i.size]'(by omega)):=List.getElem?_eq_getElem (by omega)
  have B:ds[j/i.size]?=some (ds[j/i.size]'(by omega)):=List.getElem?_eq_getElem (by omega)
  rw[F]at G
  have af:=flat_get ds (λd B=>(M d B).1) (j/i.size) (j%i.size) _ B ay
  rw[Nat.mul_comm,Nat.div_add_mod]at af
  rw[af]at ak
  exact(ad _ _ _ F B).2.2 (j%i.size) u y (by simpa using G) ak)
 exact⟨_,J,aB,aK,aJ,aw⟩
theorem av.qY(F:av w0 I0 w I m l){w':World}{e size:Nat}{els:List D}{v:Value}{row:Option Nat}{lo:List AO}(aO:lo.length=l.length)(Z:∀(k:Nat) a,lo[k]?=some a→a=.dead∨l[k]?=some a)(aV:∀(k:Nat) a,a.isVar=true→l[k]?=some a→lo[k]?=some a)(O:w.grownBy w' row)(aM:w.drawn≤w'.drawn)(ag:∀b,row=some b→w0.heap.size≤b∧I.cM b∧∀k,alive lo k=true→own (m k)≠some b)(aP:∀b,row=some b→¬I.df b)(aq:∀b,own v=some b→w0.heap.size≤b∧I.cM b∧∀k,alive lo k=true→own (m k)≠some b){xs:List Value}(aS:w'.ownsRow w0.heap.size e size v els.length xs)(aT:∀d∈els,d.cells.length=size∧∀x∈d.cells,x.one=true)(aR:∀(j:Nat) x y,xs[j]?=some x→(flat els)[j]?=some y→Rd I x y)(aU:∃A n c,v=.slice A n c) :
  Le I m l I (aC m l.length v) (lo++[.row e size els])∧av w0 I0 w' I (aC m l.length v) (lo++[.row e size els])∧ah I (aC m l.length v) (lo++[.row e size els]) v (.row l.length):=by
 have ai:∀k,k<l.length→(lo++[AO.row e size els])[k]?=lo[k]?:=λk aA=>List.getElem?_append_left (by omega)
 have aN:(lo++[AO.row e size els])[l.length]?=some (.row e size els):=by rw[←aO];simp
 have aD:Le I m l I (aC m l.length v) (lo++[.row e size els]):=by
  refine⟨.refl I,by simp;omega,λid ab aw=>⟨?_,bq m v (by omega)⟩,λid ab af=>⟨?_,bq m v (by omega)⟩,λid aY s' els' ab hh=>?_⟩
  ·unfold isVar at aw⊢;rw[ai id ab]
   cases B:l[id]? with
   |none=>simp[B]at aw
   |some o=>
    have aE:o.isVar=true:=by simpa [B]using aw
    rw[aV id o aE B];exact aE
  ·unfold isRow at af⊢;rw[ai id ab]at af
   cases B:lo[id]? with
   |none=>simp[B]at af
   |some o=>
    rcases Z id o B with rfl|h
    ·simp[B,AO.isRow]at af
    rw[h];rw[B]at af;exact af
  rw[ai id ab]at hh
  rcases hh with hh|hh
  ·rcases Z id _ hh with h|h
   ·cases h
   exact⟨els',.inl h⟩
  rcases Z id _ hh with h|h
  ·cases h
  exact⟨els',.inr h⟩
 have aL:∀k a,lo[k]?=some a→a ≠ .dead→∀b,own (m k)=some b→w'.heap[b]?=w.heap[b]?:=by
  intro k a ak G b aa
  have aK:l[k]?=some a:=(Z k a ak).resolve_left G
  refine O.block b ((F.obj k a aK).lt G aa).1 (λM=>?_)
  exact(ag b M.symm).2.2 k (bg.2 ⟨a,ak,G⟩) aa
 refine⟨aD,⟨F.below.trans ⟨O.os,O.tape,O.output,O.size,λk aA=>O.block k (by have:=F.below.size;omega) (λM=>by have:=(ag k M.symm).1;omega),λ_=>aM⟩,⟨λb o u Y=>?_,λb aJ Y=>?_,λb G=>(O.block b (F.sat.gE G) (λM=>aP b M.symm G)).trans (F.sat.df b G),F.sat.c9⟩,F.ext,λid o B=>?_,λi j b aj hi az ad ae=>?_⟩,?_⟩
 ·have ar:some b≠row:=λM=>by rw[(ag b M.symm).2.1.1 o]at Y;cases Y
  exact(World.cell?_of_block (w:=w) (a:=⟨b,o,none⟩) (O.block b (F.sat.lt Y) ar)).trans (F.sat.cell b o u Y)
 ·have ar:some b≠row:=λM=>by rw[(ag b M.symm).2.1.2]at Y;cases Y
  have hh:=F.sat.mp b aJ Y
  exact MapAt.to (O.block b (F.sat.jv Y) ar) hh
 ·by_cases ab:id<l.length
  ·rw[ai id ab]at B;rw[bq m v (by omega)]
   by_cases G:o=.dead
   ·subst G;trivial
   exact(F.obj id o ((Z id o B).resolve_left G)).dD aD (aL id o B G) (λ_ _=>⟨rfl,rfl⟩) ⟨λb u au _=>⟨O.block b (F.sat.lt au) (λM=>by rw[(ag b M.symm).2.1.1 0]at au;cases au),rfl,rfl⟩,λq b aQ aa=>(oR aQ).elim (λh=>.inl ⟨q,(by
    have U:=h.2;unfold bO at U⊢
    cases an:lo[q]? with
    |none=>simp[an]at U
    |some a=>
     rcases Z q a an with rfl|h'
     ·simp[an,AO.bO]at U
     rw[an]at U;rw[h'];exact U),by rw[bq m v (by have:=h.1;omega)]at aa;exact aa⟩) λh=>by cases h.2⟩
  have:id=l.length:=by
   have:=(List.getElem?_eq_some_iff.1 B).1;simp at this;omega
  subst this
  rw[aN]at B;injection B with B;subst B
  rw[cD]
  exact⟨xs,aS,aT,aR,λb aa=>(aq b aa).2.1⟩
 ·have al:∀k,k≠l.length→alive (lo++[AO.row e size els]) k=true→alive lo k=true∧k<l.length:=by
   intro k aA ak
   obtain⟨o,B,G⟩:=bg.1 ak
   have aB:k<l.length:=by have:=(List.getElem?_eq_some_iff.1 B).1;simp at this;omega
   rw[ai k aB]at B
   exact⟨bg.2 ⟨o,B,G⟩,aB⟩
  by_cases ao:i=l.length
  ·subst ao;rw[cD]at ad;rw[bq m v (Ne.symm aj)]at ae
   exact(aq b ad).2.2 j (al j (Ne.symm aj) az).1 ae
  by_cases U:j=l.length
  ·subst U;rw[cD]at ae;rw[bq m v aj]at ad
   exact(aq b ae).2.2 i (al i aj hi).1 ad
  rw[bq m v ao]at ad;rw[bq m v U]at ae
  have aH:=(al i ao hi).1
  have aI:=(al j U az).1
  obtain⟨aF,aW,ax⟩:=bg.1 aH
  obtain⟨aG,aX,ay⟩:=bg.1 aI
  exact F.sep i j b aj (bg.2 ⟨aF,(Z i aF aW).resolve_left ax,ax⟩) (bg.2 ⟨aG,(Z j aG aX).resolve_left ay,ay⟩) ad ae
 obtain⟨A,n,c,rfl⟩:=aU
 exact .row A n c _ (by simp;omega) (λ_=>cD m _ _)
theorem av.OM(M:av w0 I0 w I m l){w':World}{e size:Nat}{els:List D}{v:Value}{row:Option Nat}{lo:List AO}(aG:lo.length=l.length)(Y:∀(k:Nat) a,lo[k]?=some a→a=.dead∨l[k]?=some a)(aW:∀(k:Nat) a,a.isVar=true→l[k]?=some a→lo[k]?=some a)(Z:w.grownBy w' row)(aR:w.drawn≤w'.drawn)(aA:∀b,row=some b→w0.heap.size≤b∧∀k,alive lo k=true→own (m k)≠some b)(aI:∀b,row=some b∨own v=some b→I.cell b 0=none∨∃q,bO l q=true∧own (m q)=some b){J:aq}(aj:I.le J)(ao:∀b,own v≠some b→J.cell b=I.cell b∧J.mp b=I.mp b)(aU:cw w' J)(af:∀b,own v=some b→w0.heap.size≤b∧∀k,alive lo k=true→own (m k)≠some b)(aT:dh w0.heap.size w' J (aC m l.length v) (lo++[.aM e size els]) v (.aM e size els))(aV:∃A n c,v=.slice A n c) :
  Le I m l J (aC m l.length v) (lo++[.aM e size els])∧av w0 I0 w' J (aC m l.length v) (lo++[.aM e size els])∧ah J (aC m l.length v) (lo++[.aM e size els]) v (.row l.length):=by
 have ag:∀k,k<l.length→(lo++[AO.aM e size els])[k]?=lo[k]?:=λk aD=>List.getElem?_append_left (by omega)
 have aS:(lo++[AO.aM e size els])[l.length]?=some (.aM e size els):=by rw[←aG];simp
 have aF:Le I m l J (aC m l.length v) (lo++[.aM e size els]):=by
  refine⟨aj,by simp;omega,λid aa ax=>⟨?_,bq m v (by omega)⟩,λid aa ae=>⟨?_,bq m v (by omega)⟩,λid a1 s' els' aa hh=>?_⟩
  ·unfold isVar at ax⊢;rw[ag id aa]
   cases B:l[id]? with
   |none=>simp[B]at ax
   |some o=>
    have aJ:o.isVar=true:=by simpa [B]using ax
    rw[aW id o aJ B];exact aJ
  ·unfold isRow at ae⊢;rw[ag id aa]at ae
   cases B:lo[id]? with
   |none=>simp[B]at ae
   |some o=>
    rcases Y id o B with rfl|h
    ·simp[B,AO.isRow]at ae
    rw[h];rw[B]at ae;exact ae
  rw[ag id aa]at hh
  rcases hh with hh|hh
  ·rcases Y id _ hh with h|h
   ·cases h
   exact⟨els',.inl h⟩
  rcases Y id _ hh with h|h
  ·cases h
  exact⟨els',.inr h⟩
 have aQ:∀k a,lo[k]?=some a→a ≠ .dead→∀b,own (m k)=some b→w'.heap[b]?=w.heap[b]?:=by
  intro k a ak O b F
  have aP:l[k]?=some a:=(Y k a ak).resolve_left O
  refine Z.block b ((M.obj k a aP).lt O F).1 (λG=>?_)
  exact(aA b G.symm).2 k (bg.2 ⟨a,ak,O⟩) F
 refine⟨aF,⟨M.below.trans ⟨Z.os,Z.tape,Z.output,Z.size,λk aD=>Z.block k (by have:=M.below.size;omega) (λG=>by have:=(aA k G.symm).1;omega),λ_=>aR⟩,aU,⟨λ_ _ _ x=>aj.cell _ _ _ (M.ext.lc _ _ _ x),λ_ _ x=>aj.mp _ _ (M.ext.lm _ _ x),λb F x=>aj.df b (M.ext.ld b F x),λb F=>?_,λb F=>?_⟩,λid o B=>?_,λi j b ai hi aB ab ad=>?_⟩,?_⟩
 ·exact(ao b (λG=>by have:=(af b G).1;omega)).1.trans (M.ext.cell b F)
 ·exact(ao b (λG=>by have:=(af b G).1;omega)).2.trans (M.ext.mp b F)
 ·by_cases aa:id<l.length
  ·rw[ag id aa]at B;rw[bq m v (by omega)]
   by_cases O:o=.dead
   ·subst O;trivial
   exact(M.obj id o ((Y id o B).resolve_left O)).dD aF (aQ id o B O) (λb F=>ao b (λG=>(af b G).2 id (bg.2 ⟨o,B,O⟩) F)) ⟨λb u aw au=>(by
    have aH:∀{x:Prop},(row=some b∨own v=some b)→x:=λh=>((aI b h).elim (λh=>by rw[h]at aw;cases aw) λh=>absurd h.choose_spec.2 (au _ h.choose_spec.1))
    exact⟨Z.block b (M.sat.lt aw) (λG=>aH (.inl G.symm)),ao b (λG=>aH (.inr G))⟩),λq b au F=>(oR au).elim (λh=>.inl ⟨q,(by
    have U:=h.2;unfold bO at U⊢
    cases an:lo[q]? with
    |none=>simp[an]at U
    |some a=>
     rcases Y q a an with rfl|h'
     ·simp[an,AO.bO]at U
     rw[an]at U;rw[h'];exact U),by rw[bq m v (by have:=h.1;omega)]at F;exact F⟩) λh=>by
    rw[h.1,aG,cD]at F
    exact(aI b (.inr F)).elim .inr λ⟨aX,k1,k2⟩=>.inl ⟨aX,k1,k2⟩⟩
  have:id=l.length:=by
   have:=(List.getElem?_eq_some_iff.1 B).1;simp at this;omega
  subst this
  rw[aS]at B;injection B with B;subst B
  rw[cD]
  exact aT
 ·have al:∀k,k≠l.length→alive (lo++[AO.aM e size els]) k=true→alive lo k=true∧k<l.length:=by
   intro k aD ak
   obtain⟨o,B,O⟩:=bg.1 ak
   have aE:k<l.length:=by have:=(List.getElem?_eq_some_iff.1 B).1;simp at this;omega
   rw[ag k aE]at B
   exact⟨bg.2 ⟨o,B,O⟩,aE⟩
  by_cases ar:i=l.length
  ·subst ar;rw[cD]at ab;rw[bq m v (Ne.symm ai)]at ad
   exact(af b ab).2 j (al j (Ne.symm ai) aB).1 ad
  by_cases U:j=l.length
  ·subst U;rw[cD]at ad;rw[bq m v ai]at ab
   exact(af b ad).2 i (al i ai hi).1 ab
  rw[bq m v ar]at ab;rw[bq m v U]at ad
  have aN:=(al i ar hi).1
  have aO:=(al j U aB).1
  obtain⟨aK,aY,ay⟩:=bg.1 aN
  obtain⟨aL,aZ,az⟩:=bg.1 aO
  exact M.sep i j b ai (bg.2 ⟨aK,(Y i aK aY).resolve_left ay,ay⟩) (bg.2 ⟨aL,(Y j aL aZ).resolve_left az,az⟩) ab ad
 obtain⟨A,n,c,rfl⟩:=aV
 exact .row A n c _ (by simp;omega) (λ_=>cD m _ _)
end
end Go.af
