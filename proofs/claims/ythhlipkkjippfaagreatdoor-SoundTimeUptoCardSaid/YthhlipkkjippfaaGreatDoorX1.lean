import Derived.WalkKit
import Derived.WalkSpells
import Derived.WalkLawsBesides
import Derived.Maps.AppendAt
import Derived.Deep.AppendLies
import Derived.Deep.MidRow
import Derived.Deep.Quiet
import Derived.Great.BuildSlice
import Derived.OrdersIn
import Derived.TacticsIn
import Derived.RangeFuncCalls
import Derived.Sort.LoopGhostIn
set_option linter.all false
namespace Go
def c4:=@List.getElem?_eq_getElem
def c5:=@Option.some.injEq
def da:=@List.getElem?_eq_some_iff
def db:=@decide_eq_true
def dd:=@Bool.and_eq_true
def dk:=@decide_eq_false
def dn:=@List.mem_of_getElem?
def dT:=@List.all_eq_true
def ea:=@congrArg
def eb:=@Nat.le_refl
def ek:=@decide_eq_true_eq
def et:=@Nat.eq_of_beq_eq_true
def e0:=@List.getElem?_map
def e1:=@Prod.mk.injEq
def e3:=@List.getElem?_append_left
def e4:=@List.length_append
def e5:=@List.getElem?_set
def e6:=@Option.map_eq_some_iff
def e7:=@Array.getElem?_eq_some_iff
def e8:=@Array.getElem?_eq_getElem
def fa:=@List.length_take
def fb:=@List.mem_cons
def fv:=@List.map_cons
def gj:=@Sem.run_bind
def hf:=@Array.getD_eq_getD_getElem?
def hg:=@List.getElem?_take
def hz:=@List.mem_map
def hA:=@List.mem_iff_getElem
def hB:=@Classical.byContradiction
def hC:=@Bool.not_eq_true'
def hD:=@of_decide_eq_true
def hE:=@List.mem_of_find?_eq_some
def hF:=@Nat.le_trans
def hG:=@Nat.le_of_ble_eq_true
def hI:=@Bool.eq_iff_iff
def hJ:=@List.getElem?_append_right
def hK:=@List.getElem?_append
def hL:=@run_underlying
def hM:=@List.length_map
def hN:=@List.mem_filter
def hP:=@List.map_congr_left
def hQ:=@if_true
def hR:=@List.mem_range
def hS:=@List.getElem?_eq_none
def hT:=@List.getElem_mem
def hU:=@List.any_eq_true
def hV:=@decide_eq_false_iff_not
def hW:=@Ne.symm
def hX:=@Bool.false_eq_true
def h5:=@List.mem_append
def h6:=@Bool.or_eq_true
def h8:=@List.flatMap_cons
def h9:=@List.drop_eq_getElem_cons
def ia:=@Nat.zero_add
def ib:=@Array.mem_toList_iff
def ie:=@List.ext_getElem?
def ih:=@if_false
def ik:=@Nat.beq_refl
def iu:=@List.nodup_cons
def iv:=@not_true_eq_false
def jb:=@MapKept.run_getObj_map
def j0:=@Array.getElem?_append_left
def j1:=@List.mem_flatMap
def j2:=@List.append_assoc
def j3:=@List.contains_iff_mem
def j4:=@List.length_filter_le
def j5:=@Nat.zero_le
def ka:=@decide_eq_decide
def kb:=@List.eq_nil_of_length_eq_zero
def kd:=@Array.getElem?_toList
def kz:=@List.getElem?_range
def kA:=@Option.some.inj
def kB:=@List.filter_cons
def k0:=@Nat.mul_le_mul_right
def k3:=@List.filter_eq_nil_iff
def k4:=@List.getElem?_drop
def k5:=@Option.isSome_iff_exists
def k6:=@List.map_map
def k7:=@List.find?_some
def k8:=@Array.toList_inj
def la:=@Option.bind_eq_some_iff
def lb:=@beq_false
def lA:=@List.take_of_length_le
def lB:=@List.drop_eq_nil_of_le
def l2:=@List.filter_sublist
def mb:=@List.any_eq_false
def mo:=@List.mapM_cons
def mv:=@Nat.lt_or_ge
def na:=@World.cell?_of_block
def nb:=@List.append_nil
def nh:=@Bool.or_eq_false_iff
def nn:=@MapKept.run_setObj_map
def n2:=@Classical.choose_spec
def n3:=@and_assoc
def n4:=@List.mem_of_mem_take
def om:=@Bool.not_eq_true
def oo:=@Nat.mul_comm
def o0:=@Bool.true_and
def o1:=@Int.tmod_eq_emod_of_nonneg
def o2:=@Code.wpIn_mono
def o3:=@MapKept.run_findKey
def pa:=@Nat.min_eq_left
def pb:=@List.length_set
def p0:=@List.pairwise_iff_getElem
def p1:=@Array.getElem?_modify
def p2:=@Nat.lt_of_lt_of_le
def p3:=@setRow_other
def p4:=@MapKept.heap_set
def p5:=@List.mem_singleton
def p6:=@List.findIdx?_cons
def qd:=@List.find?_eq_none
def qn:=@Bool.not_true
def qs:=@Nat.add_mul
def q0:=@Bool.and_true
def q1:=@MapKept.run_checkKey
def q2:=@List.mem_append_left
def q3:=@List.mem_cons_of_mem
def q4:=@List.pairwise_map
def q5:=@Array.getElem?_append_right
def q6:=@List.cons.injEq
def q7:=@World.grownBy_alloc
def q8:=@List.filter_eq_self
def q9:=@Bool.false_or
def ra:=@List.mem_filterMap
def rb:=@Nat.div_lt_iff_lt_mul
def rr:=@Addr.add_mid
def rv:=@Nat.mod_lt
def r0:=@Array.getElem?_push
def r1:=@List.length_drop
def r2:=@List.drop_zero
def r3:=@List.not_mem_nil
def r4:=@Nat.lt_succ_self
def sa:=@getElem!_pos
def sb:=@Nat.div_mul_cancel
def sh:=@List.take_append_drop
def sk:=@List.length_replicate
def sm:=@Nat.add_assoc
def ss:=@Int.tdiv_eq_ediv_of_nonneg
def sx:=@List.nodup_append
def s3:=@Nat.gcd_dvd_right
def s4:=@beq_iff_eq
def s5:=@List.mem_of_mem_drop
def s6:=@Nat.le_succ
def ta:=@List.flatMap_map
def tb:=@Nat.gcd_pos_of_pos_right
def tc:=@List.Pairwise.imp_of_mem
def td:=@Nat.add_sub_cancel_left
def ti:=@List.eq_nil_iff_forall_not_mem
def tl:=@Nat.eq_zero_or_pos
def tr:=@Bool.not_eq_false'
def tt:=@Nat.div_le_self
def tv:=@Int.mul_le_mul_of_nonneg_right
def tx:=@List.drop_drop
def uu:=@run_part_plain
def u0:=@Array.mem_of_getElem?
def u4:=@List.mem_append_right
def u5:=@List.map_set
def u6:=@bind_mono
def va:=@Nat.coprime_div_gcd_div_gcd
def vb:=@World.cell?_alloc_lt
def vc:=@List.getElem?_of_mem
def vf:=@List.perm_ext_iff_of_nodup
def vi:=@beq_eq_false_iff_ne
def vt:=@List.mergeSort_perm
def vx:=@Nat.div_add_mod
def vy:=@Array.mapM_eq_mapM_toList
def v7:=@List.map_append
def v8:=@List.getElem?_zip_eq_some
def w1:=@callsIn_wide
def w2:=@heap_alloc_new
def xd:=@Bool.false_and
def x0:=@List.take_take
def x1:=@Int.eq_ofNat_of_zero_le
def x3:=@List.length_eq_zero_iff
def y0:=@run_storeCells_at
def za:=@run_append_own_at
def zc:=@List.length_range
def zv:=@List.foldl_append
def zx:=@List.Pairwise.imp
def zz:=@MapKept.stamped_modify
def z1:=@List.getElem?_eraseIdx
def A1:=@List.append_eq_nil_iff
def B1:=@Nat.le_of_dvd
def Ds:=@List.drop_append
def D1:=@List.drop_length
def F0:=@List.getElem?_toArray
def F1:=@Nat.ble_eq_true_of_le
def F4:=@Int.tmod_add_mul_tdiv
def F8:=@Nat.Coprime.dvd_of_dvd_mul_left
def I1:=@Nat.succ_mul
def I3:=@MapKept.stamped_push
def J0:=@List.length_eraseIdx
def J1:=@wpIn_region_lit
def J2:=@World.alloc_heap_new
def J3:=@List.range_succ
def J4:=@List.filter_map
def J5:=@List.take_append_of_le_length
def Kd:=@List.drop_append_of_le_length
def Kn:=@List.length_flatMap
def KR:=@List.dropWhile_cons
def K1:=@List.takeWhile_cons
def K2:=@List.filter_flatMap
def LB:=@List.length_reverse
def LL:=@Iff.rfl
def M0:=@Array.getElem?_setIfInBounds
def Qd:=@or_false
def Qe:=@Int.gcd_pos_of_ne_zero_right
def Qp:=@Nat.mul_le_mul
def Qx:=@Bool.and_false
def T0:=@List.take_succ
def aba:=@setRow_heap
def abb:=@decide_true
def abc:=@Array.foldl_toList
def abd:=@List.pairwise_cons
def abe:=@Int.natCast_nonneg
def abf:=@Int.sub_add_cancel
def abg:=@run_sliceAt_slice
def abh:=@List.filter_congr
def abi:=@Nat.add_comm
def abj:=@List.map_nil
def abk:=@true_and
def abl:=@Nat.gcd_dvd_left
def abm:=@Int.zero_add
def abn:=@List.map_flatMap
def abo:=@beq_toListBytes
def abp:=@run_equalIn_int
def abq:=@List.all_append
def abr:=@Int.natAbs_tmod
def abt:=@Int.natAbs_tdiv
def abu:=@Nat.mul_pos
end Go
namespace Go.ag
open Go Go.RowKit
inductive D where
 |bool (b:Bool)
 |int (k:IntKind) (n:Int)
 |str (s:ByteArray)
 |agg (cs:List D)
 |slice (size:Nat) (els:List D)
 |fn (f:FuncId)
 |iB
 |map (ks vs:List D)
 |dI
 |iface (t:TypeId) (d:D)
 |pE
 |aJ (ds:List D)
 |aB (f:FuncId) (caps:List D)
 |box (d:D)
 deriving Inhabited
def D.cells:D->List D
 |.agg cs=>cs
 |d=>[d]
def D.one:D->Bool
 |.agg _=>false
 |.aJ _=>false
 |_=>true
def flat(els:List D):List D:=els.flatMap D.cells
abbrev ME:=Array MapEntry×Nat
structure av where
 cell:Nat->Nat->Option Value
 mp:Nat->Option ME
 df:Nat->Prop
structure av.le(I J:av):Prop where
 cell:∀b o v,I.cell b o=some v->J.cell b o=some v
 mp:∀b es,I.mp b=some es->J.mp b=some es
 df:∀b,I.df b->J.df b
theorem av.le.refl(I:av):I.le I:=⟨λ_ _ _ h=>h,λ_ _ h=>h,λ_ h=>h⟩
theorem av.le.trans{I J K:av}(h:I.le J)(k:J.le K):I.le K:=⟨λ_ _ _ x=>k.cell _ _ _ (h.cell _ _ _ x),λ_ _ x=>k.mp _ _ (h.mp _ _ x),λ_ x=>k.df _ (h.df _ x)⟩
inductive Rd(I:av):Value->D->Prop
 |bool (b):Rd I (.bool b) (.bool b)
 |int (k n):Rd I (.int k n) (.int k n)
 |str (s):Rd I (.string s) (.str s)
 |agg (cs:Array Value) (ds:List D):cs.size=ds.length->(∀d∈ds,d.one=true)->(∀(i:Nat) v d,cs[i]?=some v->ds[i]?=some d->Rd I v d)->Rd I (.agg cs) (.agg ds)
 |jK (A c size):c<=maxLen->Rd I (.slice A 0 c) (.slice size [])
 |slice (b off n c size:Nat) (els:List D) (val:Nat->Value):els.length=n->n<=c->c<=maxLen->(∀d∈els,d.cells.length=size/\∀x∈d.cells,x.one=true) ->
   (∀k,k<n*size->I.cell b (off+k)=some (val k))->(∀(k:Nat) x,(flat els)[k]?=some x->Rd I (val k) x)->Rd I (.slice (some ⟨b,off,none⟩) n c) (.slice size els)
 |fn (f):Rd I (.func (.func f) #[] #[]) (.fn f)
 |iB:Rd I .nilFunc .iB
 |tz:Rd I (.map none) (.map [] [])
 |map (b:Nat) (es:ME) (ks vs:List D):I.mp b=some es->es.1.size=ks.length->es.1.size=vs.length->(∀(i:Nat)(e:MapEntry)(d:D),es.1[i]?=some e->ks[i]?=some d->Rd I e.key d)->(∀(i:Nat)(e:MapEntry)(d:D),es.1[i]?=some e->vs[i]?=some d->Rd I e.val d)->Rd I (.map (some b)) (.map ks vs)
 |dI:Rd I (.pointer none) .dI
 |iface (t v d):Rd I v d->Rd I (.iface t v) (.iface t d)
 |pE:Rd I .nilIface .pE
 |aJ (vs:Array Value) (ds:List D):vs.size=ds.length->(∀(i:Nat) v d,vs[i]?=some v->ds[i]?=some d->Rd I v d)->Rd I (.tuple vs) (.aJ ds)
 |aB (f) (vs:Array Value) (ds:List D):vs.size=ds.length->(∀(i:Nat) v d,vs[i]?=some v->ds[i]?=some d->Rd I v d)->Rd I (.func (.func f) #[] vs) (.aB f ds)
 |box (b:Nat) (d:D) (val:Nat->Value):(∀x∈d.cells,x.one=true)->(∀k,k<d.cells.length->I.cell b k=some (val k))->(∀(k:Nat) x,d.cells[k]?=some x->Rd I (val k) x)->Rd I (.pointer (some ⟨b,0,none⟩)) (.box d)
theorem Rd.oe{I J:av}(O:∀b o v,I.cell b o=some v->J.cell b o=some v)(Z:∀b G,I.mp b=some G->J.mp b=some G){v:Value}{d:D}(r:Rd I v d):Rd J v d:=by
 induction r with
 |bool b=>exact .bool b
 |int k n=>exact .int k n
 |str s=>exact .str s
 |agg cs ds j F _ B=>exact .agg cs ds j F B
 |jK A c size h=>exact .jK A c size h
 |slice b off n c size els val j F M U Y _ B=>exact .slice b off n c size els val j F M U (λk N=>O _ _ _ (Y k N)) B
 |fn f=>exact .fn f
 |iB=>exact .iB
 |tz=>exact .tz
 |map b G ad vs j F M _ _ aa ab=>exact .map b G ad vs (Z _ _ j) F M aa ab
 |dI=>exact .dI
 |iface t v d _ B=>exact .iface t v d B
 |pE=>exact .pE
 |aJ vs ds j _ B=>exact .aJ vs ds j B
 |aB f vs ds j _ B=>exact .aB f vs ds j B
 |box b d val j F _ B=>exact .box b d val j (λk N=>O _ _ _ (F k N)) B
theorem Rd.mono{I J:av}(h:I.le J){v:Value}{d:D}(r:Rd I v d):Rd J v d:=r.oe h.cell h.mp
def Rd.one{I:av}{v:Value}{d:D}(h:Rd I v d)(j:d.one=true):v.oneCell'=true:=by
 cases h<;>simp_all [D.one,Value.oneCell']
theorem Rd.cells{I:av}{v:Value}{d:D}(h:Rd I v d)(ht:∀ds,d ≠ .aJ ds):v.cells.size=d.cells.length/\(∀x∈d.cells,x.one=true)/\∀(i:Nat) x y,v.cells[i]?=some x->d.cells[i]?=some y->Rd I x y:=by
 cases h with
 |agg cs ds B F G=>exact⟨B,F,G⟩
 |aJ vs ds B F=>exact absurd rfl (ht ds)
 |_=>
  refine⟨by simp[Value.cells,D.cells],by simp[D.cells,D.one],λi x y j k=>?_⟩
  simp only[Value.cells,D.cells]at j k
  rcases i with _|i
  ·simp at j k
   subst j;subst k
   constructor<;>assumption
  simp at j
inductive T where
 |undef
 |d (x:D)
 |bu (size:Nat)
 |ptr (id off:Nat)
 |br (size:Nat) (els:List D) (k off:Nat)
 |row (id:Nat)
 |bj (id k off:Nat)
 |map (id:Nat)
 |aJ (ts:List T)
 |cond (pc:List (Nat×Bool×Bool)) (t:T)
 |aB (f:FuncId) (ts:List T)
 |aW (id:Nat)
 |agg (ts:List T)
 |sub (id lo hi:Nat)
 |bB (id:Nat) (x:D)
 |cw (id n:Nat)
 deriving Inhabited
abbrev Tm:=List (Nat×T)
def get:Tm->Nat->T
 | [],_=>.undef
 | (i,t)::r,k=>if i=k then t else get r k
def bH(s:Tm)(j:Option Nat)(t:T):Tm:=match j with|some d=>(d,t)::s|none=>s
inductive AO where
 |dead
 |var (ty:TypeId) (cs:List T)
 |row (e size:Nat) (els:List D)
 |bg (e size:Nat) (els:List D)
 |map (ks vs:List D)
 |dE (ks vs:List D)
 |iter (ks vs:List D) (done:List Nat)
 |bn (e size:Nat) (ks vs:List D) (op:Option Nat)
 |frame (base:Nat) (vals:Nat->Value) (t:Tm)
 |loop (base n:Nat) (ps:Array Tmp) (aU body:Code) (t:Tm) (st:LoopState) (cJ:Option Code)
 deriving Inhabited
def AO.isVar:AO->Bool |.var .. =>true |.iter .. =>true |.frame .. =>true |.loop .. =>true|_=>false
def AO.isRow:AO->Bool |.row .. =>true |.bg .. =>true |.map .. =>true |.dE .. =>true |.bn .. =>true|_=>false
def AO.te:AO->Bool |.bn .. =>true|_=>false
def AO.cy:AO->Bool |.bg .. =>true|_=>false
def isVar(l:List AO)(id:Nat):Bool:=((l[id]?).map AO.isVar).getD false
def isRow(l:List AO)(id:Nat):Bool:=((l[id]?).map AO.isRow).getD false
def cy(l:List AO)(id:Nat):Bool:=((l[id]?).map AO.cy).getD false
def holds:List (Nat×Bool×Bool)->Prop
 | []=>True
 | (_,c,b)::r=>c=b/\holds r
inductive ar(I:av)(m:Nat->Value)(l:List AO):Value->T->Prop
 |undef (v):ar I m l v .undef
 |d (v x):Rd I v x->ar I m l v (.d x)
 |bu (size):ar I m l (.slice none 0 0) (.bu size)
 |ptr (id b off):isVar l id=true->m id = .pointer (some ⟨b,0,none⟩)->ar I m l (.pointer (some ⟨b,off,none⟩)) (.ptr id off)
 |br (b o size els k off) (val:Nat->Value):k<els.length->(∀d∈els,d.cells.length=size/\∀x∈d.cells,x.one=true) ->
   (∀j,j<els.length*size->I.cell b (o+j)=some (val j))->(∀(j:Nat) x,(flat els)[j]?=some x->Rd I (val j) x)->ar I m l (.pointer (some ⟨b,o+k*size+off,none⟩)) (.br size els k off)
 |row (A:Option Addr) (n c id:Nat):id<l.length->(isRow l id=true->m id = .slice A n c)->ar I m l (.slice A n c) (.row id)
 |bj (a:Addr) (id k off):id<l.length->(∀e size els,(l[id]?=some (.row e size els)\/l[id]?=some (.bg e size els))->∃b n c,m id = .slice (some ⟨b,0,none⟩) n c/\a=⟨b,k*size+off,none⟩)->ar I m l (.pointer (some a)) (.bj id k off)
 |map (r:Option Nat) (id:Nat):id<l.length->(isRow l id=true->m id = .map r)->ar I m l (.map r) (.map id)
 |aJ (vs:Array Value) (ts:List T):vs.size=ts.length->(∀(i:Nat) v t,vs[i]?=some v->ts[i]?=some t->ar I m l v t)->ar I m l (.tuple vs) (.aJ ts)
 |cond (v pc t):(holds pc->ar I m l v t)->(¬holds pc->v=Go.undef)->ar I m l v (.cond pc t)
 |aB (g) (vs:Array Value) (ts:List T):vs.size=ts.length->(∀(i:Nat) v t,vs[i]?=some v->ts[i]?=some t->ar I m l v t)->ar I m l (.func (.func g) #[] vs) (.aB g ts)
 |aW (id b):isVar l id=true->m id = .func (.yield b) #[] #[]->ar I m l (.func (.yield b) #[] #[]) (.aW id)
 |sub (A:Option Addr) (n c id lo hi:Nat):id<l.length->(∀e size els,(l[id]?=some (.row e size els)\/l[id]?=some (.bg e size els))->∃A0 n0 c0,m id = .slice A0 n0 c0/\lo<=hi/\hi<=n0/\Value.slice A n c=sliced A0 lo hi c0 size)->ar I m l (.slice A n c) (.sub id lo hi)
 |bB (A:Option Addr) (n c id:Nat) (x:D):id<l.length->(isRow l id=true->m id = .slice A n c)->Rd I (.slice A n c) x->ar I m l (.slice A n c) (.bB id x)
 |cw (id b n c:Nat):isVar l id=true->m id = .pointer (some ⟨b,0,none⟩)->n<=c->c<=maxLen->ar I m l (.slice (some ⟨b,0,none⟩) n c) (.cw id n)
 |agg (vs:Array Value) (ts:List T):vs.size=ts.length->(∀(i:Nat) v,vs[i]?=some v->v.oneCell'=true)->(∀(i:Nat) v t,vs[i]?=some v->ts[i]?=some t->ar I m l v t)->ar I m l (.agg vs) (.agg ts)
structure Le(I:av)(m:Nat->Value)(l:List AO)(J:av)(m':Nat->Value)(l':List AO):Prop where
 cR:I.le J
 len:l.length<=l'.length
 var:∀id,id<l.length->isVar l id=true->isVar l' id=true/\m' id=m id
 row:∀id,id<l.length->isRow l' id=true->isRow l id=true/\m' id=m id
 rows:∀id e size els,id<l.length->(l'[id]?=some (.row e size els)\/l'[id]?=some (.bg e size els))->∃els',(l[id]?=some (.row e size els')\/l[id]?=some (.bg e size els'))
theorem Le.refl(I:av)(m:Nat->Value)(l:List AO):Le I m l I m l:=⟨.refl I,eb _,λ_ _ h=>⟨h,rfl⟩,λ_ _ h=>⟨h,rfl⟩,λ_ _ _ els _ h=>⟨els,h⟩⟩
theorem Le.trans{I J K:av}{m m' U:Nat->Value}{l l' O:List AO}(h:Le I m l J m' l')(k:Le J m' l' K U O):Le I m l K U O where
 cR:=h.cR.trans k.cR
 len:=hF h.len k.len
 var id j B:=by
  obtain⟨F,G⟩:=h.var id j B
  obtain⟨M,N⟩:=k.var id (p2 j h.len) F
  exact⟨M,N.trans G⟩
 row id j B:=by
  obtain⟨M,N⟩:=k.row id (p2 j h.len) B
  obtain⟨F,G⟩:=h.row id j M
  exact⟨F,N.trans G⟩
 rows id e size els j B:=by
  obtain⟨els',Y⟩:=k.rows id e size els (p2 j h.len) B
  exact h.rows id e size els' j Y
def yJ{l:List AO}{base id:Nat}(h:id<base):isVar (l.take base) id=isVar l id:=by unfold isVar;rw[hg,if_pos h]
def yH{l:List AO}{base id:Nat}(h:id<base):isRow (l.take base) id=isRow l id:=by unfold isRow;rw[hg,if_pos h]
def Le.take{I J:av}{m m':Nat->Value}{l l':List AO}(h:Le I m l J m' l')(base:Nat):Le I m (l.take base) J m' (l'.take base) where
 cR:=h.cR
 len:=by have:=h.len;rw[fa,fa];omega
 var id k j:=by
  rw[fa]at k
  rw[yJ (by omega)]at j⊢
  exact h.var id (by omega) j
 row id k j:=by
  rw[fa]at k
  rw[yH (by omega)]at j⊢
  exact h.row id (by omega) j
 rows id e size els k j:=by
  rw[fa]at k
  rw[hg,if_pos (by omega)]at j⊢
  exact h.rows id e size els (by omega) j
def Le.uD(I:av)(m:Nat->Value)(l:List AO)(base:Nat):Le I m (l.take base) I m l where
 cR:=.refl I
 len:=by rw[fa];omega
 var id k j:=by
  rw[fa]at k
  rw[yJ (by omega)]at j
  exact⟨j,rfl⟩
 row id k j:=by
  rw[fa]at k
  rw[yH (by omega)]
  exact⟨j,rfl⟩
 rows id e size els k j:=by
  rw[fa]at k
  refine⟨els,?_⟩
  rw[hg,if_pos (by omega)];exact j
def yI{l:List AO}{id:Nat}(h:isVar l id=true):id<l.length:=by
 unfold isVar at h
 rcases mv id l.length with h'|h'
 ·exact h'
 rw[hS h']at h;simp at h
theorem ar.mono{I J:av}{m m':Nat->Value}{l l':List AO}(h:Le I m l J m' l'){v:Value}{t:T}(r:ar I m l v t):ar J m' l' v t:=by
 induction r with
 |undef v=>exact .undef v
 |d v x r=>exact .d v x (r.mono h.cR)
 |bu s=>exact .bu s
 |ptr id b off B F=>
  obtain⟨G,M⟩:=h.var id (yI B) B
  exact .ptr id b off G (M.trans F)
 |br b o size els k off val B F O Y=>exact .br b o size els k off val B F (λj ae=>h.cR.cell _ _ _ (O j ae)) (λj x ag=>(Y j x ag).mono h.cR)
 |row A n c id B F=>
  refine .row A n c id (p2 B h.len) λhl=>?_
  obtain⟨G,M⟩:=h.row id B hl
  exact M.trans (F G)
 |bj a id k off B F=>
  refine .bj a id k off (p2 B h.len) λe size els hl=>?_
  obtain⟨els',U⟩:=h.rows id e size els B hl
  obtain⟨b,n,c,Z,aa⟩:=F e size els' U
  have:isRow l' id=true:=by unfold isRow;rcases hl with hl|hl<;>simp[hl,AO.isRow]
  exact⟨b,n,c,(h.row id B this).2.trans Z,aa⟩
 |sub A n c id lo hi B F=>
  refine .sub A n c id lo hi (p2 B h.len) λe size els hl=>?_
  obtain⟨els',U⟩:=h.rows id e size els B hl
  obtain⟨ab,n0,ad,Z,aa⟩:=F e size els' U
  have:isRow l' id=true:=by unfold isRow;rcases hl with hl|hl<;>simp[hl,AO.isRow]
  exact⟨ab,n0,ad,(h.row id B this).2.trans Z,aa⟩
 |bB A n c id x B F O=>
  refine .bB A n c id x (p2 B h.len) (λhl=>?_) (O.mono h.cR)
  obtain⟨G,M⟩:=h.row id B hl
  exact M.trans (F G)
 |map r id B F=>
  refine .map r id (p2 B h.len) λhl=>?_
  obtain⟨G,M⟩:=h.row id B hl
  exact M.trans (F G)
 |aJ vs ts B _ N=>exact .aJ vs ts B N
 |cond v pc t _ af N=>exact .cond v pc t N af
 |aB g vs ts B _ N=>exact .aB g vs ts B N
 |aW id b B F=>
  obtain⟨G,M⟩:=h.var id (yI B) B
  exact .aW id b G (M.trans F)
 |cw id b n c B F O Y=>
  obtain⟨G,M⟩:=h.var id (yI B) B
  exact .cw id b n c G (M.trans F) O Y
 |agg vs ts B F _ N=>exact .agg vs ts B F N
def own:Value->Option Nat
 |.pointer (some a)=>some a.block
 |.slice (some a) _ _=>some a.block
 |.map (some b)=>some b
 |.func (.yield b) _ _=>some b
 |_=>none
def av.dJ(I:av)(b:Nat):Prop:=(∀o,I.cell b o=none)/\I.mp b=none
def dL(o:Option Obj)(j:ME):Prop:=o=some (.map j.1 j.2)/\MapKept.Stamped j.1 j.2
def dL.to{o o':Option Obj}{j:ME}(h:o'=o)(k:dL o j):dL o' j:=⟨h.trans k.1,k.2⟩
def uO(j:ME)(i:Nat):Nat:=((j.1[i]?).map (·.born)).getD 0
def iM(B:Nat)(w:World)(I:av)(v:Value)(e size:Nat)(els:List D):Prop:=
 ∃xs,w.ownsRow B e size v els.length xs/\(∀d∈els,d.cells.length=size/\∀x∈d.cells,x.one=true)/\(∀(j:Nat) x y,xs[j]?=some x->(flat els)[j]?=some y->Rd I x y)/\(∀b,own v=some b->I.mp b=none/\(∀(j:Nat) x,xs[j]?=some x->I.cell b j=some x)/\∀j,xs.length<=j->I.cell b j=none)
def xA(B:Nat)(w:World)(I:av)(m:Nat->Value)(l:List AO)(e size:Nat)(F:ME)(vs:List D)(G:Option Nat):Prop:=
 ∃k:Nat->Nat,(∀(i:Nat)(en:MapEntry)(d:D),G≠some i->F.1[i]?=some en->vs[i]?=some d->∃els,d = .slice size els/\els≠[]/\own en.val=some (k i)/\iM B w I en.val e size els) /\
  (∀i j,i≠j->i<F.1.size->j<F.1.size->G≠some i->G≠some j->k i≠k j)/\∀q i,cy l q=true->i<F.1.size->G≠some i->own (m q)≠some (k i)
def dH(B:Nat)(w:World)(I:av)(m:Nat->Value)(l:List AO)(v:Value):AO->Prop
 |.dead=>True
 |.var ty cs=>∃b vs,v = .pointer (some ⟨b,0,none⟩)/\B<=b/\w.heap[b]?=some (.cells vs ty (0,0))/\vs.size=cs.length/\(∀(i:Nat) x t,vs[i]?=some x->cs[i]?=some t->ar I m l x t/\x.oneCell'=true)/\I.dJ b
 |.row e size els=>∃xs,w.ownsRow B e size v els.length xs/\(∀d∈els,d.cells.length=size/\∀x∈d.cells,x.one=true)/\(∀(j:Nat) x y,xs[j]?=some x->(flat els)[j]?=some y->Rd I x y)/\(∀b,own v=some b->I.dJ b)
 |.bg e size els=>∃xs,w.ownsRow B e size v els.length xs/\(∀d∈els,d.cells.length=size/\∀x∈d.cells,x.one=true)/\(∀(j:Nat) x y,xs[j]?=some x->(flat els)[j]?=some y->Rd I x y)/\(∀b,own v=some b->I.mp b=none/\(∀(j:Nat) x,xs[j]?=some x->I.cell b j=some x)/\∀j,xs.length<=j->I.cell b j=none)
 |.map G vs=>∃b F,v = .map (some b)/\B<=b/\dL w.heap[b]? F/\F.1.size=G.length/\F.1.size=vs.length/\(∀(i:Nat)(e:MapEntry)(d:D),F.1[i]?=some e->G[i]?=some d->Rd I e.key d)/\(∀(i:Nat)(e:MapEntry)(d:D),F.1[i]?=some e->vs[i]?=some d->Rd I e.val d)/\I.dJ b
 |.dE G vs=>∃b F,v = .map (some b)/\B<=b/\dL w.heap[b]? F/\F.1.size=G.length/\F.1.size=vs.length/\(∀(i:Nat)(e:MapEntry)(d:D),F.1[i]?=some e->G[i]?=some d->Rd I e.key d)/\(∀(i:Nat)(e:MapEntry)(d:D),F.1[i]?=some e->vs[i]?=some d->Rd I e.val d)/\(∀o,I.cell b o=none)/\I.mp b=some F
 |.iter G vs done=>∃b M F seen,v = .pointer (some ⟨b,0,none⟩)/\B<=b/\w.heap[b]?=some (.mapIter M F.2 seen F.2)/\((∀r,M=some r->I.mp r=some F)/\(M=none->F.1 = #[]))/\F.1.size=G.length/\F.1.size=vs.length/\(∀(i:Nat)(e:MapEntry)(d:D),F.1[i]?=some e->G[i]?=some d->Rd I e.key d)/\(∀(i:Nat)(e:MapEntry)(d:D),F.1[i]?=some e->vs[i]?=some d->Rd I e.val d)/\(seen.toList=done.map (uO F)/\∀i∈done,i<F.1.size)/\I.dJ b
 |.bn e size G vs O=>∃b F,v = .map (some b)/\B<=b/\dL w.heap[b]? F/\F.1.size=G.length/\F.1.size=vs.length/\(∀(i:Nat)(e:MapEntry)(d:D),F.1[i]?=some e->G[i]?=some d->Rd I e.key d)/\(∀(i:Nat)(e:MapEntry)(d:D),F.1[i]?=some e->vs[i]?=some d->Rd I e.val d)/\I.dJ b/\0<size/\xA B w I m l e size F vs O
 |.frame base vals t=>own v=none/\base<=l.length/\∀k,ar I m (l.take base) (vals k) (get t k)
 |.loop base n ps aU N t st cJ=>∃b r,v = .func (.yield b) #[] #[]/\B<=b/\w.heap[b]?=some (.loop r)/\(r.state=st/\r.pending=cJ/\r.params=ps/\r.assign=aU/\r.body=N/\r.tmps.size=n)/\base<=l.length/\(∀k,ar I m (l.take base) (r.tmps.getD k undef) (get t k))/\I.dJ b
class bd where
 on:Prop
 iz:Nat->Option D:=λ_=>none
variable [bd]
structure c8(w:World)(I:av):Prop where
 cell:∀b o v,I.cell b o=some v->w.cell? ⟨b,o,none⟩=some v
 mp:∀b es,I.mp b=some es->dL w.heap[b]? es
 df:∀b,I.df b->w.heap[b]?=some (.deferred (some []))
 c7:∀g d,bd.iz g=some d->Rd I (.pointer (some ⟨g,0,none⟩)) (.box d)
def c8.j7{w:World}{I:av}(h:c8 w I){b:Nat}(j:I.df b):b<w.heap.size:=(e7.1 (h.df b j)).1
def c8.kX{w:World}{I:av}(h:c8 w I){b:Nat}{o:Obj}(j:w.heap[b]?=some o)(B:o ≠ .deferred (some [])):¬I.df b:=λk=>by
 rw[h.df b k]at j;injection j with j;exact B j.symm
def c8.lt{w:World}{I:av}(h:c8 w I){b o:Nat}{v:Value}(j:I.cell b o=some v):b<w.heap.size:=World.block_lt_of_cell? w ⟨b,o,none⟩ (h.cell b o v j)
def c8.mR{w:World}{I:av}(h:c8 w I){b:Nat}{j:ME}(k:I.mp b=some j):b<w.heap.size:=by
 have B:=h.mp b j k
 exact(e7.1 B.1).1
theorem c8.dJ{w:World}{I:av}(h:c8 w I){b:Nat}(k:w.heap.size<=b):I.dJ b:=by
 refine⟨λo=>?_,?_⟩
 ·cases j:I.cell b o with
  |none=>rfl
  |some v=>have:=h.lt j;omega
 cases j:I.mp b with
 |none=>rfl
 |some v=>have:=h.mR j;omega
structure fi(B:Nat)(I J:av):Prop where
 lc:∀b o v,I.cell b o=some v->J.cell b o=some v
 lm:∀b es,I.mp b=some es->J.mp b=some es
 ld:∀b,b<B->I.df b->J.df b
 cell:∀b,b<B->J.cell b=I.cell b
 mp:∀b,b<B->J.mp b=I.mp b
theorem fi.of{B:Nat}{I J:av}(h:I.le J)(j:∀b,b<B->J.cell b=I.cell b)(k:∀b,b<B->J.mp b=I.mp b):fi B I J:=⟨h.cell,h.mp,λb _=>h.df b,j,k⟩
def fi.le{B:Nat}{I J:av}(h:fi B I J)(k:∀b,I.df b->b<B):I.le J:=⟨h.lc,h.lm,λb j=>h.ld b (k b j) j⟩
theorem fi.refl(B:Nat)(I:av):fi B I I:=.of (.refl I) (λ_ _=>rfl) (λ_ _=>rfl)
theorem fi.trans{B F:Nat}{I J K:av}(h:fi B I J)(k:fi F J K)(G:B<=F):fi B I K:=
 ⟨λ_ _ _ x=>k.lc _ _ _ (h.lc _ _ _ x),λ_ _ x=>k.lm _ _ (h.lm _ _ x),λb j x=>k.ld b (by omega) (h.ld b j x),λb j=>(k.cell b (by omega)).trans (h.cell b j),λb j=>(k.mp b (by omega)).trans (h.mp b j)⟩
def alive(l:List AO)(id:Nat):Bool:=isVar l id||isRow l id
structure dz(B:Nat)(w w':World):Prop where
 os:w'.os=w.os
 tape:w'.tape=w.tape
 output:w'.output=w.output
 size:w.heap.size<=w'.heap.size
 block:∀k,k<B->w'.heap[k]?=w.heap[k]?
 drawn:bd.on->w.drawn<=w'.drawn
theorem dz.refl(B:Nat)(w:World):dz B w w:=⟨rfl,rfl,rfl,eb _,λ_ _=>rfl,λ_=>eb _⟩
def dz.below{B:Nat}{w w':World}(h:dz B w w'):Below B w w':=⟨h.os,h.tape,h.output,h.size,h.block⟩
theorem dz.of{B:Nat}{w w':World}(h:Below B w w')(j:bd.on->w.drawn<=w'.drawn):dz B w w':=⟨h.os,h.tape,h.output,h.size,h.block,j⟩
theorem dz.trans{B:Nat}{a b c:World}(h:dz B a b)(k:dz B b c):dz B a c:=.of (h.below.trans k.below) λo=>hF (h.drawn o) (k.drawn o)
theorem dz.mono{B j:Nat}{w w':World}(h:dz B w w')(k:j<=B):dz j w w':=.of (h.below.mono k) h.drawn
theorem dz.alloc{B:Nat}{w w':World}(h:dz B w w')(j:B<=w'.heap.size)(o:Obj):dz B w (w'.alloc o):=.of (h.below.alloc j o) h.drawn
def dz.drew{B:Nat}{w w':World}(h:dz B w w'):dz B w w'.drew:=.of h.below.drew λo=>hF (h.drawn o) (s6 _)
structure aE(w0:World)(I0:av)(w:World)(I:av)(m:Nat->Value)(l:List AO):Prop where
 below:dz w0.heap.size w0 w
 sat:c8 w I
 ext:fi w0.heap.size I0 I
 obj:∀id o,l[id]?=some o->dH w0.heap.size w I m l (m id) o
 sep:∀i j b,i≠j->alive l i=true->alive l j=true->own (m i)=some b->own (m j)≠some b
end Go.ag
namespace Go.ag
open Go Go.RowKit
def BS{α:Type}:∀(x:Ask α)(w:World),w.drawn<=(w.ask x).2.drawn
 |.done a,w=>eb _
 |.ask j range k,w=>by
  simp only[World.ask]
  split
  ·exact BS _ w
  exact hF (s6 _) (BS (k _) {w with drawn:=w.drawn+1})
def ZA(w:World)(c:Sys):w.drawn<=(w.sys c).2.drawn:=by
 unfold World.sys
 have h:=BS (Kernel.perform c w.os) w
 split
 ·exact eb _
 rename_i r B w' k j
 rw[j]at h;exact h
def aaH{p:Program}{w w':World}{at_:Addr}{u:TypeId}{k:Addr}{v:Value}{j:Bool}{l:List Addr}(h:w.viewStore p at_ u k v j = .ok (w',l)):w'.drawn=w.drawn:=by
 unfold World.viewStore at h
 simp only[bind,Except.bind,pure,Except.pure,throw,throwThe,MonadExceptOf.throw]at h
 repeat' split at h
 all_goals first|cases h;done|skip
 all_goals (injection h with h;injection h with h _;subst h;rfl)
def TN{p:Program}{w w':World}{a:Addr}{v:Value}{j:Bool}{l:List Addr}(h:w.farStore p a v j = .ok (w',l)):w'.drawn=w.drawn:=by
 unfold World.farStore at h
 split at h
 ·split at h
  ·rename_i r k
   injection h with h;subst h;exact aaH k
  cases h
 cases h
def gi{α:Type}(p:Program):∀(s:Sem α) (w:World) (a:α) (w':World),s.run p w = .ok a w'->w.drawn<=w'.drawn
 |.pure a,w,b,w',h=>by simp only[Sem.run]at h;cases h;exact eb _
 |.load m a k,w,b,w',h=>by
  simp only[Sem.run]at h
  split at h
  ·exact gi p _ w b w' h
  split at h
  ·exact gi p _ w b w' h
  cases h
 |.store m a v k,w,b,w',h=>by
  have key:∀u:Value,(match w.cell? a with
    |some _=>if w.frozen? a then Result.halt (.unsupported (.unsafePointer "a write to bytes that a string shares")) w else k.run p (w.setCell a u)
    |none=>match w.farStore p a u (m == .atomic)with
     |.ok (w,_)=>k.run p w
     |.error h=>.halt h w)=Result.ok b w'->w.drawn<=w'.drawn:=by
   intro u h
   split at h
   ·split at h
    ·cases h
    have:=gi p k _ b w' h;exact this
   split at h
   ·rename_i B l j
    have:=gi p k _ b w' h
    rw[TN j]at this;exact this
   cases h
  cases v<;>simp only[Sem.run]at h<;>first|exact key _ h|cases h
 |.new o k,w,b,w',h=>by simp only[Sem.run]at h;have:=gi p _ _ b w' h;exact this
 |.shape r k,w,b,w',h=>by simp only[Sem.run]at h;exact gi p _ _ b w' h
 |.freeze a n k,w,b,w',h=>by
  simp only[Sem.run]at h
  have:=gi p _ _ b w' h
  unfold World.freeze at this
  split at this<;>exact this
 |.frozen a k,w,b,w',h=>by simp only[Sem.run]at h;exact gi p _ _ b w' h
 |.getObj r k,w,b,w',h=>by
  simp only[Sem.run]at h
  split at h
  ·cases h
  ·exact gi p _ _ b w' h
  cases h
 |.setObj r o k,w,b,w',h=>by
  simp only[Sem.run]at h
  split at h
  ·cases h
  ·have:=gi p _ _ b w' h;exact this
  cases h
 |.choose q k,w,b,w',h=>by
  simp only[Sem.run]at h
  split at h
  ·exact gi p _ _ b w' h
  exact hF (s6 _) (gi p _ _ b w' h)
 |.sys c k,w,b,w',h=>by simp only[Sem.run]at h;exact hF (ZA w c) (gi p _ _ b w' h)
 |.program k,w,b,w',h=>by simp only[Sem.run]at h;exact gi p _ _ b w' h
 |.mark m k,w,b,w',h=>by simp only[Sem.run]at h;exact gi p _ _ b w' h
 |.halt x,w,b,w',h=>by simp only[Sem.run]at h;cases h
def MS(s:ByteArray):∀(bound i:Nat)(j:Array Value),(∀x∈j.toList,∃n,x = .int .i32 n)->∀x∈(Conv.runesFrom s bound i j).toList,∃n,x = .int .i32 n
 |0,_,j,h=>h
 |bound+1,i,j,h=>by
  unfold Conv.runesFrom
  split
  ·refine MS s bound _ _ λx k=>?_
   simp at k
   rcases k with k|rfl
   ·exact h x (by simpa using k)
   exact⟨_,rfl⟩
  exact h
end Go.ag
namespace Go.ag
open Go Go.RowKit
inductive TD where
 |iH
 |dF (k:IntKind)
 |string
 |slice (e:TypeId)
 |struct (fs:List (Nat×TypeId))
 |array (n:Nat) (e:TypeId)
 |map (k v:TypeId)
 deriving DecidableEq,Inhabited
structure TI where
 size:Nat
 bytes:Nat
 zero:List D
 desc:TD
def TD.agg:TD->Bool
 |.struct _=>true
 |.array _ _=>true
 |_=>false
abbrev bW:=TypeId->Option TI
abbrev xt:=FuncId->List D->Option (D×Prop)
structure FR where
 t:T
 l:List AO
 ob:Prop
abbrev BI:=FuncId->List T->List AO->Option FR
def ev(agg:Bool)(cs:List D):D:=if agg then .agg cs else cs.headD .dI
inductive qi where
 |none
 |new (o:AO)
 |aK (l:List AO)
structure R where
 t:T
 bq:qi
 ob:Prop
def R.ok(t:T):R:=⟨t,.none,True⟩
def R.bad:R:=⟨.undef,.none,False⟩
def oM:Value->D->Bool
 |.bool b,.bool c=>b == c
 |.int k n,.int j B=>k == j&&n == B
 |.string s,.str s'=>s.data == s'.data
 |.slice none 0 0,.slice _ []=>true
 |.pointer none,.dI=>true
 |.map none,.map [] []=>true
 |.nilFunc,.iB=>true
 |.nilIface,.pE=>true
 |_,_=>false
def qB:Value->T
 |.bool b=>.d (.bool b)
 |.int k n=>.d (.int k n)
 |.string s=>.d (.str s)
 |.slice none 0 0=>.bu 0
 |.pointer none=>.d .dI
 |.map none=>.d (.map [] [])
 |.nilFunc=>.d .iB
 |.nilIface=>.d .pE
 |_=>.undef
def bE[bd](s:Tm):Operand->T
 |.tmp t=>get s t
 |.const v=>qB v
 |.func f=>.d (.fn f)
 |.global g=>match bd.iz g with|some d=>.br d.cells.length [d] 0 0|none=>.undef
structure St where
 t:Tm
 l:List AO
def cH(l:List AO):T->Option (D×List AO)
 |.d x=>some (x,l)
 |.bB _ x=>some (x,l)
 |.bu s=>some (.slice s [],l)
 |.row id=>match l[id]? with
  |some (.bg _ s els)=>some (.slice s els,l)
  |some (.row e s els)=>some (.slice s els,l.set id (.bg e s els))
  |_=>none
 |.map id=>match l[id]? with
  |some (.dE ks vs)=>some (.map ks vs,l)
  |some (.map ks vs)=>some (.map ks vs,l.set id (.dE ks vs))
  |_=>none
 |_=>none
def cZ:List AO->List T->Option (List D×List AO)
 |l,[]=>some ([],l)
 |l,t::ts=>match cH l t with
  |none=>none
  |some (x,l')=>match cZ l' ts with
   |none=>none
   |some (xs,j)=>some (x::xs,j)
def jd(l:List AO):T->Bool
 |.d _=>true
 |.bB _ _=>true
 |.bu _=>true
 |.row id=>match l[id]? with|some (.bg ..)=>true|_=>false
 |.map id=>match l[id]? with|some (.dE ..)=>true|_=>false
 |_=>false
def dc(l:List AO)(t:T):Option (D×List AO):=match t with
 |.agg ts=>(match cZ l ts with
  |some (ds,l')=>some (.agg ds,l')
  |none=>none)
 |t=>cH l t
def eP:List AO->List T->Option (List D×List AO)
 |l,[]=>some ([],l)
 |l,t::ts=>match dc l t with
  |none=>none
  |some (x,l')=>match eP l' ts with
   |none=>none
   |some (xs,j)=>some (x::xs,j)
def ng(l:List AO)(t:T):Bool:=match t with
 |.agg ts=>ts.all (jd l)
 |t=>jd l t
def arith(k:IntKind)(n:Int):D×Prop:=
 match k with
 |.i64=>(.int .i64 n,-9223372036854775808<=n/\n<=9223372036854775807)
 |k=>(.int k (k.wrap n),True)
mutual
def ga:D->D->Bool
 |.bool a,.bool b=>a == b
 |.int _ a,.int _ b=>a == b
 |.str a,.str b=>a == b
 |.agg xs,.agg ys=>cV xs ys
 |_,_=>false
def cV:List D->List D->Bool
 | [],[]=>true
 |x::xs,y::ys=>ga x y&&cV xs ys
 |_,_=>false
end
inductive Lf where
 |bool
 |int (k:IntKind)
 |str
 deriving DecidableEq
def qR:Lf->D->Bool
 |.bool,.bool _=>true
 |.int k,.int j _=>k == j
 |.str,.str _=>true
 |_,_=>false
def fk:List Lf->List D->Bool
 | [],[]=>true
 |x::xs,d::ds=>qR x d&&fk xs ds
 |_,_=>false
def qp(k:IntKind)(a b:Int):Int:=k.wrap ((BitVec.ofInt k.bits a &&& BitVec.ofInt k.bits b).toNat:Int)
def pW(k:IntKind)(a b:Int):Int:=a.fdiv (2 ^ min b.toNat k.bits)
def Ga(j:BinOp)(k:IntKind)(a b:Int):Option (D×Prop):=match j with
 |.shr=>some (.int k (pW k a b),0<=b)
 |_=>none
def eB(B:TypeId->Option (List Lf))(j:BinOp)(ty:TypeId):D->D->Option (D×Prop)
 |.int k a,.int F b=>
  if k≠F then Ga j k a b else
  match j with
  |.shr=>some (.int k (pW k a b),0<=b)
  |.and=>some (.int k (qp k a b),True)
  |.add=>some ((arith k (a+b)).1,(arith k (a+b)).2)
  |.sub=>some ((arith k (a-b)).1,(arith k (a-b)).2)
  |.mul=>some ((arith k (a*b)).1,(arith k (a*b)).2)
  |.quo=>(match k with |.i64=>some (.int .i64 (a.tdiv b),b≠0 /\ -9223372036854775808<=a.tdiv b/\a.tdiv b<=9223372036854775807)|_=>none)
  |.rem=>some (.int k (a.tmod b),b≠0)
  |.eql=>some (.bool (decide (a=b)),True)
  |.neq=>some (.bool (!decide (a=b)),True)
  |.lss=>some (.bool (decide (a<b)),True)
  |.leq=>some (.bool (decide (a<=b)),True)
  |.gtr=>some (.bool (decide (b<a)),True)
  |.geq=>some (.bool (decide (b<=a)),True)
  |_=>none
 |.bool a,.bool b=>match j with
  |.eql=>if B ty=some [.bool]then some (.bool (a == b),True)else none
  |.neq=>if B ty=some [.bool]then some (.bool (!(a == b)),True)else none
  |_=>none
 |.str a,.str b=>match j with
  |.eql=>some (.bool (a == b),True)
  |.neq=>some (.bool (!(a == b)),True)
  |.add=>some (.str (a++b),(a.size:Int)+(b.size:Int)<=9223372036854775807)
  |_=>none
 |.agg xs,.agg ys=>match j with
  |.eql=>(match B ty with|some ls=>if ls=[.bool]then none else some (.bool (cV xs ys),fk ls xs=true/\fk ls ys=true)|none=>none)
  |.neq=>(match B ty with|some ls=>if ls=[.bool]then none else some (.bool (!(cV xs ys)),fk ls xs=true/\fk ls ys=true)|none=>none)
  |_=>none
 |_,_=>none
def uC(j:UnOp):D->Option (D×Prop)
 |.bool b=>match j with |.not=>some (.bool (!b),True)|_=>none
 |.int k n=>match j with |.neg=>some ((arith k (0-n)).1,(arith k (0-n)).2)|_=>none
 |_=>none
def kf:Option (D×Prop)->R
 |some (x,ob)=>⟨.d x,.none,ob⟩
 |none=>.bad
def bm:T->List T
 |.d x=>x.cells.map .d
 |.agg ts=>ts
 |t=>[t]
def T.fA:T->Bool
 |.d x=>x.one
 |.aJ _=>false
 |.cond _ _=>false
 |.agg _=>false
 |.undef=>false
 |_=>true
def gp:T->Option D
 |.d x=>some x
 |.bu s=>some (.slice s [])
 |_=>none
def eQ:T->Option D
 |.d x=>some x
 |_=>none
def fP(agg:Bool)(cs:List T):T:=
 if agg then(match cs.mapM eQ with|some ds=>.d (.agg ds)|none=>.agg cs)else cs.headD .undef
def ij:D->T
 |.slice s []=>.bu s
 |x=>.d x
def unbox:T->T
 |.d (.box d)=>.br d.cells.length [d] 0 0
 |t=>t
def lJ(g:FuncId)(ts:List T):T:=match ts.mapM eQ with
 |some ds=>.d (.aB g ds)
 |none=>.aB g ts
def setAt{α:Type}(l:List α)(off:Nat)(xs:List α):List α:=l.take off++xs++l.drop (off+xs.length)
def bw(E:bW)(t:TypeId):Nat:=((E t).map TI.size).getD 0
def kM(j:Nat->Option (Nat×Nat))(cells:List T):List (Nat×T)->Option (List T)
 | []=>some cells
 | (i,t)::rest=>match j i with
  |some (off,size)=>if(bm t).length=size/\off+size<=cells.length/\(bm t).all T.fA=true then kM j (setAt cells off (bm t)) rest else none
  |none=>none
def rH(E:bW)(fs:List (Nat×TypeId))(i:Nat):Option (Nat×Nat):=(fs[i]?).map λf=>(f.1,bw E f.2)
def ep(els:List D)(k:Nat):D:=(els[k]?).getD .dI
def qN:D->Bool
 |.agg _=>true
 |_=>false
def gV(i:TI)(size:Nat)(els:List D)(k off:Nat):R:=
 if size=i.size/\off=0 then⟨.d (ep els k),.none,k<els.length/\qN (ep els k)=i.desc.agg⟩
 else⟨.d (ev i.desc.agg (((ep els k).cells.drop off).take i.size)),.none,k<els.length/\off+i.size<=size⟩
def eV(E:bW)(ty:TypeId)(l:List AO):T->R
 |.ptr id off=>match E ty,l[id]? with
  |some i,some (.var _ cs)=>if off+i.size<=cs.length then .ok (fP i.desc.agg ((cs.drop off).take i.size))else .bad
  |_,_=>.bad
 |.br size els k off=>match E ty with
  |some i=>gV i size els k off
  |none=>.bad
 |.bj id k off=>match E ty,l[id]? with
  |some i,some (.row _ size els)|some i,some (.bg _ size els)=>gV i size els k off
  |_,_=>.bad
 |_=>.bad
def me(l:List AO):T->T->R
 |.ptr id off,x=>match l[id]? with
  |some (.var ty cs)=>if off+(bm x).length<=cs.length then⟨.undef,.aK (l.set id (.var ty (setAt cs off (bm x)))),((bm x).all T.fA)=true⟩else .bad
  |_=>.bad
 |.bj id k 0,.d x=>match l[id]? with
  |some (.row e size els)=>if x.cells.length=size then⟨.undef,.aK (l.set id (.row e size (els.set k x))),x.cells.length=size/\x.cells.all D.one=true/\k<els.length⟩else(match ep els k with
   |.agg cs=>⟨.undef,.aK (l.set id (.row e size (els.set k (.agg (setAt cs 0 x.cells))))),0+x.cells.length<=size/\x.cells.all D.one=true/\k<els.length⟩
   |_=>.bad)
  |_=>.bad
 |.bj id k (off+1),.d x=>match l[id]? with
  |some (.row e size els)=>(match ep els k with
   |.agg cs=>⟨.undef,.aK (l.set id (.row e size (els.set k (.agg (setAt cs (off+1) x.cells))))),off+1+x.cells.length<=size/\x.cells.all D.one=true/\k<els.length⟩
   |_=>.bad)
  |_=>.bad
 |_,_=>.bad
def jU(E:bW)(s:TypeId)(f:Nat):T->R
 |.ptr id off=>match E s with|some ⟨_,_,_,.struct fs⟩=>(match fs[f]? with|some p=>if 0<bw E p.2 then .ok (.ptr id (off+p.1))else .bad|none=>.bad)|_=>.bad
 |.br size els k off=>match E s with|some ⟨_,_,_,.struct fs⟩=>(match fs[f]? with|some p=>if 0<bw E p.2 then .ok (.br size els k (off+p.1))else .bad|none=>.bad)|_=>.bad
 |.bj id k off=>match E s with|some ⟨_,_,_,.struct fs⟩=>(match fs[f]? with|some p=>if 0<bw E p.2 then .ok (.bj id k (off+p.1))else .bad|none=>.bad)|_=>.bad
 |_=>.bad
def lL(E:bW)(s:TypeId)(f:Nat):T->R
 |.d (
    .agg cs)=>match E s with
  |some ⟨_,_,_,.struct fs⟩=>(match fs[f]? with
   |some p=>(match E p.2 with
    |some i=>if p.1+i.size<=cs.length/\0<i.size then .ok (.d (ev i.desc.agg ((cs.drop p.1).take i.size)))else .bad
    |none=>.bad)
   |none=>.bad)
  |_=>.bad
 |_=>.bad
def cY:T->Option (IntKind×Int)
 |.d (.int k n)=>some (k,n)
 |_=>none
def jB(E:bW)(t:TypeId)(l:List AO)(x i:T):R:=
 match E t,cY i with
 |some ⟨_,_,_,.slice e⟩,some (_,n)=>
  (match x with
  |.d (.slice size els)=>if size=bw E e/\0<size then⟨.br size els n.toNat 0,.none,0<=n/\n<els.length⟩else .bad
  |.row id=>(match l[id]? with
   |some (.row _ size els)|some (.bg _ size els)=>if size=bw E e/\0<size then⟨.bj id n.toNat 0,.none,0<=n/\n<els.length⟩else .bad
   |_=>.bad)
  |_=>.bad)
 |some ⟨_,_,_,.array len e⟩,some (_,n)=>
  (match x with
  |.br size els k off=>if(E e).isSome=true then⟨.br size els k (off+n.toNat*bw E e),.none,0<=n/\n<len⟩else .bad
  |_=>.bad)
 |_,_=>.bad
def mapOf(l:List AO):T->Option (List D×List D)
 |.d (.map ks vs)=>some (ks,vs)
 |.map id=>match l[id]? with
  |some (.map ks vs)|some (.dE ks vs)|some (.bn _ _ ks vs _)=>some (ks,vs)
  |_=>none
 |_=>none
def jD(E:bW)(t:TypeId)(l:List AO)(x:T):R:=
 match E t with
 |some ⟨_,_,_,.string⟩=>(match x with |.d (.str s)=>.ok (.d (.int .i64 s.size))|_=>.bad)
 |some ⟨_,_,_,.slice _⟩=>(match x with
  |.d (.slice _ els)=>.ok (.d (.int .i64 els.length))
  |.bu _=>.ok (.d (.int .i64 0))
  |.row id=>(match l[id]? with
   |some (.row _ _ els)|some (.bg _ _ els)=>.ok (.d (.int .i64 els.length))
   |_=>.bad)
  |_=>.bad)
 |some ⟨_,_,_,.map _ _⟩=>(match mapOf l x with|some (ks,_)=>.ok (.d (.int .i64 ks.length))|none=>.bad)
 |_=>.bad
def jh(x:T)(lo hi:Option T):R:=
 match x with
 |.d (.slice size els)=>
  (match lo,hi with
  |none,none=>.ok x
  |some a,none=>(match cY a with|some (_,n)=>⟨.d (.slice size (els.drop n.toNat)),.none,0<=n/\n<=els.length⟩|none=>.bad)
  |none,some b=>(match cY b with|some (_,n)=>⟨.d (.slice size (els.take n.toNat)),.none,0<=n/\n<=els.length⟩|none=>.bad)
  |some a,some b=>(match cY a,cY b with
   |some (_,n),some (_,h)=>⟨.d (.slice size ((els.take h.toNat).drop n.toNat)),.none,0<=n/\n<=h/\h<=els.length⟩
   |_,_=>.bad))
 |_=>.bad
def kr(E:bW)(e:TypeId)(l:List AO)(id:Nat)(lo hi:Option T):R:=
 match l[id]? with
 |some (.row _ size els)=>if size=bw E e/\(E e).isSome=true then
   (match lo,hi with
   |some a,none=>(match cY a with|some (_,n)=>⟨.sub id n.toNat els.length,.aK l,0<=n/\n<=els.length⟩|none=>.bad)
   |none,some b=>(match cY b with|some (_,n)=>⟨.sub id 0 n.toNat,.aK l,0<=n/\n<=els.length⟩|none=>.bad)
   |_,_=>.bad)else .bad
 |_=>.bad
def mf(E:bW)(e:TypeId)(l:List AO)(id:Nat)(lo hi:Option T)(mx:T):R:=
 match l[id]?,lo,hi with
 |some (.row _ size els),some a,some b=>(match cY a,cY b,cY mx with
  |some (_,n),some (_,h),some (_,q)=>if size=bw E e/\(E e).isSome=true then⟨.undef,.aK l,0<=n/\n<=h/\h<=q/\q<=els.length⟩else .bad
  |_,_,_=>.bad)
 |_,_,_=>.bad
def kH(E:bW)(t:TypeId)(l:List AO)(x:T):R:=
 match E t,x with
 |some ⟨_,_,_,.slice e⟩,.sub id lo hi=>(match E e,l[id]? with
  |some i,some (.row j size els)=>if size=i.size/\hi=els.length/\0<size then⟨.d (.aJ []),.aK (l.set id (.row j size (els.take lo++List.replicate (hi-lo) (ev i.desc.agg i.zero)))),True⟩else .bad
  |_,_=>.bad)
 |_,_=>.bad
def kV(E:bW)(t:TypeId)(l:List AO)(nid:Nat)(a b:T):R:=
 match E t,cY a,cY b with
 |some ⟨_,_,_,.slice e⟩,some (_,n),some (_,c)=>(match E e with
  |some i=>if 0<i.size then⟨.row nid,.aK (l++[.row e i.size (List.replicate n.toNat (ev i.desc.agg i.zero))]),0<=n/\c=n/\n*i.bytes<=140737488355328/\n<=9223372036854775807⟩else .bad
  |none=>.bad)
 |_,_,_=>.bad
def gN(E:bW)(t:TypeId)(l:List AO)(nid:Nat)(s x:T):R:=
 match E t with
 |some ⟨_,_,_,.slice e⟩=>(match E e with
  |some i=>
   (match dc l x with
   |some (.slice k new,l1)=>if(k=i.size\/new.isEmpty)/\0<i.size then
     (match s with
     |.bu _=>⟨.row nid,.aK (l1++[.row e i.size new]),new.length*i.bytes<=140737488355328/\new.length<=9223372036854775807⟩
     |.row id=>(match l1[id]? with
      |some (.row j size els)=>if j=e/\size=i.size/\nid=l1.length then⟨.row nid,.aK (l1.set id .dead++[.row e size (els++new)]),(els.length+new.length)*i.bytes<=140737488355328/\els.length+new.length<=9223372036854775807⟩else .bad
      |_=>.bad)
     |.bB id _=>(match l1[id]? with
      |some (.bg j size els)=>if j=e/\size=i.size/\nid=l1.length then⟨.bB nid (.slice size (els++new)),.aK (l1.set id .dead++[.bg e size (els++new)]),(els.length+new.length)*i.bytes<=140737488355328/\els.length+new.length<=9223372036854775807⟩else .bad
      |_=>.bad)
     |_=>.bad)else .bad
   |_=>.bad)
  |none=>.bad)
 |_=>.bad
def sy(C:xt)(f:FuncId)(l:List AO)(ts:List T):R:=
 match eP l ts with
 |some (ds,l')=>(match C f ds with
  |some (x,ob)=>⟨.d x,if ts.all (ng l)then .none else .aK l',ob⟩
  |none=>.bad)
 |none=>.bad
def nc(c a b:T):R:=
 match c with
 |.d (.bool c)=>
  let f:Bool->T->Option (Bool×Prop):=λj t=>match t with
   |.d (.bool x)=>some (x,True)
   |.cond pc (.d (.bool x))=>some (x,c=j->holds pc)
   |_=>none
  (match f true a,f false b with
  |some (x,p),some (y,q)=>⟨.d (.bool (if c then x else y)),.none,p/\q⟩
  |some (x,p),none=>⟨.d (.bool x),.none,c=true/\p⟩
  |none,some (y,q)=>⟨.d (.bool y),.none,c=false/\q⟩
  |none,none=>.bad)
 |_=>.bad
def ye(E:bW)(t:TypeId):Nat:=match E t with|some ⟨_,_,_,.slice e⟩=>bw E e|_=>0
def typed(E:bW)(t:TypeId):T->T
 |.bu _=>.bu (ye E t)
 |x=>x
def fq(E:bW):List TypeId->List T->List T
 |t::ts,x::xs=>typed E t x::fq E ts xs
 |_,xs=>xs
structure Env where
 E:bW
 C:xt
 ja:TypeId->Option (List Lf)
 F:BI:=λ_ _ _=>none
 P:Program
 inl:FuncId->Bool:=λ_=>false
 sub:Bool:=false
def qu(V:Env)(g:FuncId)(l:List AO)(ts:List T):R:=
 match V.F g ts l with
 |some ⟨t,l',ob⟩=>⟨t,.aK l',ob⟩
 |none=>sy V.C g l ts
def dU(n:Int):List D->Nat->Option Nat
 | [],_=>none
 |.int _ a::r,i=>if n=a then some i else dU n r (i+1)
 |_::_,_=>none
def mK(k:IntKind)(B:List D):Bool:=B.all λd=>match d with |.int j _=>j == k|_=>false
def j8(E:bW)(t:TypeId):Option (IntKind×TI):=match E t with
 |some ⟨_,_,_,.map kt e⟩=>match E kt,E e with
  |some ⟨_,_,_,.dF kk⟩,some i=>some (kk,i)
  |_,_=>none
 |_=>none
def qU(E:bW)(t:TypeId)(l:List AO)(x k:T)(ok:Bool):R:=
 match j8 E t,mapOf l x,cY k with
 |some (kk,i),some (ks,vs),some (B,n)=>
  if kk=B then
   match dU n ks 0 with
   |some j=>⟨if ok then .d (.aJ [ep vs j,.bool true])else .d (ep vs j),.none,mK kk ks=true⟩
   |none=>⟨if ok then .d (.aJ [ev i.desc.agg i.zero,.bool false])else .d (ev i.desc.agg i.zero),.none,mK kk ks=true⟩
  else .bad
 |_,_,_=>.bad
def lR(E:bW)(t:TypeId)(l:List AO)(x k v:T):R:=
 match j8 E t,x,cY k,gp v with
 |some (kk,_),.map id,some (B,n),some d=>
  if kk=B then
   match l[id]? with
   |some (.map ks vs)=>⟨.undef,.aK (l.set id (match dU n ks 0 with|some j=>.map ks (vs.set j d)|none=>.map (ks++[.int kk n]) (vs++[d]))),mK kk ks=true⟩
   |_=>.bad
  else .bad
 |_,_,_,_=>.bad
def mS(E:bW)(t:TypeId)(l:List AO)(x k:T):R:=
 match j8 E t,x,cY k with
 |some (kk,_),.map id,some (B,n)=>
  if kk=B then
   match l[id]? with
   |some (.map ks vs)=>⟨.d (.aJ []),.aK (l.set id (match dU n ks 0 with|some j=>.map (ks.eraseIdx j) (vs.eraseIdx j)|none=>.map ks vs)),mK kk ks=true⟩
   |_=>.bad
  else .bad
 |_,_,_=>.bad
def xU(s:ByteArray)(n:Nat):Int:=((s[n]?).getD 0).toNat
def sZ(E:bW)(t:TypeId)(x i:T):R:=
 match E t,x,cY i with
 |some ⟨_,_,_,.string⟩,.d (.str s),some (_,n)=>⟨.d (.int .u8 (xU s n.toNat)),.none,0<=n/\n<s.size⟩
 |_,_,_=>.bad
def MR:Value->D
 |.int k n=>.int k n
 |_=>.dI
def w6(s:ByteArray):List D:=(Conv.runesFrom s s.size 0 #[]).toList.map MR
def o5(E:bW)(j t:TypeId)(x:T):R:=
 match E j,E t,x with
 |some ⟨_,_,_,.dF _⟩,some ⟨_,_,_,.dF k⟩,.d (.int _ n)=>.ok (.d (.int k (k.wrap n)))
 |some ⟨_,_,_,.string⟩,some ⟨_,_,_,.slice e⟩,.d (.str s)=>(match E e with
  |some ⟨1,_,_,.dF .i32⟩=>⟨.d (.slice 1 (w6 s)),.none,s.size<=16777216⟩
  |_=>.bad)
 |_,_,_=>.bad
def wT(E:bW)(t:TypeId)(l:List AO)(nid:Nat)(x:T):R:=match E t,x with
 |some ⟨_,_,_,.map _ _⟩,.map id=>(match dc l (.map id)with
  |some (.map ks vs,l')=>⟨.ptr nid 0,.aK (l'++[.iter ks vs []]),True⟩
  |_=>.bad)
 |some ⟨_,_,_,.map _ _⟩,.d (.map ks vs)=>⟨.ptr nid 0,.aK (l++[.iter ks vs []]),True⟩
 |_,_=>.bad
def uW(l:List AO)(x:T):R:=match x with
 |.ptr id 0=>(match l[id]? with
  |some (.iter ks vs done)=>(match done.getLast? with
   |some i=>(match ks[i]?,vs[i]? with|some k,some v=>.ok (.d (.aJ [k,v]))|_,_=>.bad)
   |none=>.bad)
  |_=>.bad)
 |_=>.bad
def tg:D->D->Bool
 |.agg a,.agg b=>cV a b
 |_,_=>false
def iY(k:D):List D->Nat->Option Nat
 | [],_=>none
 |a::r,i=>if tg k a=true then some i else iY k r (i+1)
def pr(kk:IntKind):D->Bool
 |.int j _=>j == kk
 |_=>false
def nV(n:Nat)(kk:IntKind):D->Bool
 |.agg cs=>decide (cs.length=n)&&cs.all (pr kk)
 |_=>false
def vF(n:Nat)(kk:IntKind)(j:List D):Bool:=j.all (nV n kk)
def GN:List (Nat×TypeId)->Bool
 | (o,t)::p::r=>decide ((o,t)::p::r=(List.range (r.length+2)).map λj=>(j,t))
 |_=>false
def yM(E:bW)(k:TypeId):Option (Nat×IntKind):=match E k with
 |some ⟨_,_,_,.array n j⟩=>(match E j with|some ⟨_,_,_,.dF kk⟩=>some (n,kk)|_=>none)
 |some ⟨_,_,_,.struct fs⟩=>(match fs with
  | (_,t0)::_=>(match E t0 with
   |some ⟨_,_,_,.dF kk⟩=>if GN fs=true then some (fs.length,kk)else none
   |_=>none)
  | []=>none)
 |_=>none
def mU(E:bW)(t:TypeId):Option (Nat×IntKind×TI):=match E t with
 |some ⟨_,_,_,.map kt e⟩=>match yM E kt,E e with
  |some (n,kk),some i=>some (n,kk,i)
  |_,_=>none
 |_=>none
def tq(E:bW)(t:TypeId)(l:List AO)(x k:T)(ok:Bool):R:=
 match mU E t,mapOf l x,k with
 |some (n,kk,i),some (ks,vs),.d B=>
  if nV n kk B=true then
   match iY B ks 0 with
   |some j=>⟨if ok then .d (.aJ [ep vs j,.bool true])else .d (ep vs j),.none,vF n kk ks=true⟩
   |none=>⟨if ok then .d (.aJ [ev i.desc.agg i.zero,.bool false])else .d (ev i.desc.agg i.zero),.none,vF n kk ks=true⟩
  else .bad
 |_,_,_=>.bad
def mT(E:bW)(t:TypeId)(l:List AO)(x k v:T):R:=
 match mU E t,x,k,gp v with
 |some (n,kk,_),.map id,.d B,some d=>
  if nV n kk B=true then
   match l[id]? with
   |some (.map ks vs)=>⟨.undef,.aK (l.set id (match iY B ks 0 with|some j=>.map ks (vs.set j d)|none=>.map (ks++[B]) (vs++[d]))),vF n kk ks=true⟩
   |_=>.bad
  else .bad
 |_,_,_,_=>.bad
def rK(E:bW)(t:TypeId)(l:List AO)(x k v:T):R:=if(mU E t).isSome=true then mT E t l x k v else lR E t l x k v
def pv(E:bW)(t:TypeId)(l:List AO)(x k:T)(ok:Bool):R:=if(mU E t).isSome=true then tq E t l x k ok else qU E t l x k ok
def rR(E:bW)(n:Nat)(e:TypeId)(cs:List D):R:=
 if bw E e=1/\(E e).isSome=true/\cs.length=n/\n<=16777216/\cs.all D.one=true then .ok (.d (.slice 1 cs))else .bad
def evalOp(
      V:Env)(ρ:Operand->T)(l:List AO)(nid:Nat)(o:Oper):R:=
 match o.op with
 |.move x |.assign x=>.ok (typed V.E o.type (ρ x))
 |.pick c a b=>nc (ρ c) (ρ a) (ρ b)
 |.box e x=>⟨.ptr nid 0,.new (.var e (bm (ρ x))),((bm (ρ x)).all T.fA)=true⟩
 |.alloc e=>(match V.E e with|some i=>⟨.ptr nid 0,.new (.var e (i.zero.map ij)),True⟩|none=>.bad)
 |.load t a=>eV V.E t l (unbox (ρ a))
 |.store t a x=>if(bm (ρ x)).length=bw V.E t/\0<bw V.E t then me l (ρ a) (ρ x)else .bad
 |.fieldAddr s x f=>jU V.E s f (unbox (ρ x))
 |.field s x f=>lL V.E s f (ρ x)
 |.binOp B ty x y _=>(match ρ x,ρ y with |.d a,.d b=>kf (eB V.ja B ty a b)|_,_=>.bad)
 |.unOp B _ x=>(match ρ x with |.d a=>kf (uC B a)|_=>.bad)
 |.indexAddr t x i=>jB V.E t l (unbox (ρ x)) (ρ i)
 |.slice t x lo hi none=>(match V.E t,ρ x with
  |some ⟨_,_,_,.slice e⟩,.d (.slice size els)=>if size=bw V.E e/\(V.E e).isSome=true then jh (.d (.slice size els)) (lo.map ρ) (hi.map ρ)else .bad
  |some ⟨_,_,_,.slice e⟩,.row id=>if V.sub=true then kr V.E e l id (lo.map ρ) (hi.map ρ)else(match dc l (.row id)with
   |some (.slice size els,l')=>if size=bw V.E e/\(V.E e).isSome=true then⟨(jh (.d (.slice size els)) (lo.map ρ) (hi.map ρ)).t,.aK l',(jh (.d (.slice size els)) (lo.map ρ) (hi.map ρ)).ob⟩else .bad
   |_=>.bad)
  |some ⟨_,_,_,.array n e⟩,.d (.box (.agg cs))=>if lo.isNone=true/\hi.isNone=true then rR V.E n e cs else .bad
  |_,_=>.bad)
 |.slice t x lo hi (some mx)=>(match V.E t,ρ x with
  |some ⟨_,_,_,.slice e⟩,.row id=>mf V.E e l id (lo.map ρ) (hi.map ρ) (ρ mx)
  |_,_=>.bad)
 |.build t parts=>(match V.E t with
  |some ⟨_,_,z,.struct fs⟩=>if fs.all (λf=>(V.E f.2).isSome)=true then(match kM (rH V.E fs) (z.map ij) (parts.toList.map λp=>(p.1,ρ p.2))with|some cs=>.ok (fP true cs)|none=>.bad)else .bad
  |some ⟨_,_,z,.array _ e⟩=>if(V.E e).isSome=true then(match kM (λi=>some (i*bw V.E e,bw V.E e)) (z.map ij) (parts.toList.map λp=>(p.1,ρ p.2))with|some cs=>.ok (fP true cs)|none=>.bad)else .bad
  |_=>.bad)
 |.buildSlice t len parts=>(match V.E t with
  |some ⟨_,_,_,.slice e⟩=>
   if(
     V.E e).isSome=true/\0<bw V.E e then
    (if len=0 then⟨.row nid,.aK (l++[.row e (bw V.E e) []]),parts.toList.isEmpty=true⟩
    else(match parts.toList.mapM (λp=>gp (ρ p.2))with
     |some ds=>if parts.toList.map (·.1)=List.range len/\len*bw V.E e<=16777216/\ds.all (λd=>d.cells.length == bw V.E e&&d.cells.all D.one)=true then .ok (.d (.slice (bw V.E e) ds))else .bad
     |none=>(match eP l (parts.toList.map λp=>ρ p.2)with
      |some (ds,l')=>if parts.toList.map (·.1)=List.range len/\len*bw V.E e<=16777216/\ds.all (λd=>d.cells.length == bw V.E e&&d.cells.all D.one)=true then⟨.d (.slice (bw V.E e) ds),.aK l',True⟩else .bad
      |none=>.bad)))
   else .bad
  |_=>.bad)
 |.extract x i=>(match ρ x with
  |.d (.aJ ds)=>(match ds[i]? with|some d=>.ok (.d d)|none=>.bad)
  |.aJ ts=>(match ts[i]? with|some t=>.ok t|none=>.bad)
  |_=>.bad)
 |.call c=>(match c.callee with
  |.value f=>(match ρ f with
   |.d (.fn g)=>qu V g l (fq V.E c.argTypes.toList (c.args.toList.map ρ))
   |.d (.aB g ds)=>qu V g l (fq V.E c.argTypes.toList (c.args.toList.map ρ)++ds.map .d)
   |_=>.bad)
  |.builtin .len=>(match c.args.toList,c.argTypes.toList with| [x],[t]=>jD V.E t l (ρ x)|_,_=>.bad)
  |.builtin .append=>(match c.args.toList,c.argTypes.toList with
   | [s,x],[t,t']=>if t=t' then gN V.E t l nid (ρ s) (ρ x)else .bad
   |_,_=>.bad)
  |.builtin .clear=>(match c.args.toList,c.argTypes.toList with| [x],[t]=>kH V.E t l (ρ x)|_,_=>.bad)
  |.builtin .delete=>(match c.args.toList,c.argTypes.toList with| [x,k],[t,_]=>mS V.E t l (ρ x) (ρ k)|_,_=>.bad)
  |.builtin .max=>(match c.args.toList.map ρ with| [.d (.int k a),.d (.int j b)]=>if k=j then .ok (.d (.int k (max a b)))else .bad|_=>.bad)
  |.builtin .min=>(match c.args.toList.map ρ with| [.d (.int k a),.d (.int j b)]=>if k=j then .ok (.d (.int k (min a b)))else .bad|_=>.bad)
  |_=>.bad)
 |.makeMap _ none=>⟨.map nid,.aK (l++[.map [] []]),True⟩
 |.mapUpdate t m k x |.insert t m k x=>rK V.E t l (ρ m) (ρ k) (ρ x)
 |.lookup t x k ok=>pv V.E t l (ρ x) (ρ k) ok
 |.index t x i=>sZ V.E t (ρ x) (ρ i)
 |.convert F t x=>o5 V.E F t (ρ x)
 |.makeFunc (.func g) first caps=>if first.isEmpty=true then .ok (lJ g (caps.toList.map ρ))else .bad
 |.range t x=>wT V.E t l nid (ρ x)
 |.entry x=>uW l (ρ x)
 |.makeSlice t a b=>kV V.E t l nid (ρ a) (ρ b)
 |_=>.bad
end Go.ag
namespace Go.ag
open Go Go.RowKit
variable [bd]
def vW{B:Nat}{w w':World}{e:TypeId}{size n:Nat}{v:Value}{xs:List Value}(h:w.ownsRow B e size v n xs)(G:∀b,own v=some b->w'.heap[b]?=w.heap[b]?):w'.ownsRow B e size v n xs:=by
 refine⟨h.1,?_⟩
 rcases h.2 with F| ⟨g,cap,cur,rfl,j,k,rest⟩
 ·exact .inl F
 exact .inr ⟨g,cap,cur,rfl,j,(G g rfl).trans k,rest⟩
def c8.y1{w:World}{I:av}{B:Nat}{e:TypeId}{size n:Nat}{v:Value}{xs:List Value}{b:Nat}(h:c8 w I)(k:w.ownsRow B e size v n xs)(j:own v=some b):¬I.df b:=by
 rcases k.2 with ⟨rfl,_⟩| ⟨g,G,cur,rfl,_,F,_⟩
 ·cases j
 simp only[own,c5]at j
 subst j
 exact h.kX F (by simp)
structure Gq(w w':World)(I J:av)(m m':Nat->Value)(l l':List AO):Prop where
 stay:∀b u,I.cell b 0=some u->(∀q,cy l q=true->own (m q)≠some b)->w'.heap[b]?=w.heap[b]?/\J.cell b=I.cell b/\J.mp b=I.mp b
 bg:∀q b,cy l' q=true->own (m' q)=some b->(∃q',cy l q'=true/\own (m q')=some b)\/I.cell b 0=none
def yG{l:List AO}{id q:Nat}{o:AO}(h:cy (l.set id o) q=true):cy l q=true\/q=id/\o.cy=true:=by
 unfold cy at h⊢
 rw[e5]at h
 by_cases j:id=q
 ·subst j;rw[if_pos rfl]at h
  split at h
  ·exact .inr ⟨rfl,by simpa using h⟩
  simp at h
 rw[if_neg j]at h;exact .inl h
def s9{l:List AO}{q:Nat}{o:AO}(h:cy (l++[o]) q=true):q<l.length/\cy l q=true\/q=l.length/\o.cy=true:=by
 unfold cy at h⊢
 rcases Nat.lt_trichotomy q l.length with hq|hq|hq
 ·rw[e3 hq]at h;exact .inl ⟨hq,h⟩
 ·subst hq;simp at h;exact .inr ⟨rfl,h⟩
 rw[hS (by simp;omega)]at h;simp at h
theorem Gq.set{w w':World}{I:av}{m:Nat->Value}{l:List AO}{id:Nat}{o':AO}(F:∀b u,I.cell b 0=some u->w'.heap[b]?=w.heap[b]?)(k:o'.cy=true->∀b,own (m id)=some b->I.cell b 0=none):Gq w w' I I m m l (l.set id o'):=
 ⟨λb u G _=>⟨F b u G,rfl,rfl⟩,λq b B j=>(yG B).elim (λh=>.inl ⟨q,h,j⟩) λh=>.inr (k h.2 b (h.1▸j))⟩
def Gq.push{w w':World}{I:av}{m:Nat->Value}{l:List AO}{v:Value}{o':AO}(G:∀b u,I.cell b 0=some u->w'.heap[b]?=w.heap[b]?)(B:o'.cy=false):Gq w w' I I m (λk=>if k=l.length then v else m k) l (l++[o']):=
 ⟨λb u M _=>⟨G b u M,rfl,rfl⟩,λq b F j=>(s9 F).elim (λh=>.inl ⟨q,h.2,by simpa [Nat.ne_of_lt h.1]using j⟩) λh=>by rw[B]at h;cases h.2⟩
theorem Gq.id{w:World}{I:av}{m:Nat->Value}{l l':List AO}(h:∀q,cy l' q=true->cy l q=true):Gq w w I I m m l l':=⟨λ_ _ _ _=>⟨rfl,rfl,rfl⟩,λq b k j=>.inl ⟨q,h q k,j⟩⟩
def iM.cC{B:Nat}{w w':World}{I J:av}{v:Value}{e size:Nat}{els:List D}(ab:∀v d,Rd I v d->Rd J v d)(h:∀b,own v=some b->w'.heap[b]?=w.heap[b]?/\J.cell b=I.cell b/\J.mp b=I.mp b)(k:iM B w I v e size els):iM B w' J v e size els:=by
 obtain⟨xs,O,U,Y,Z⟩:=k
 refine⟨xs,vW O (λb F=>(h b F).1),U,λj x y G ad=>ab _ _ (Y j x y G ad),λb F=>?_⟩
 obtain⟨_,M,N⟩:=h b F
 obtain⟨ae,af,ag⟩:=Z b F
 exact⟨N.trans ae,λj x G=>by rw[M];exact af j x G,λj aa=>by rw[M];exact ag j aa⟩
def iM.mr{B:Nat}{w:World}{I:av}{v:Value}{e size b:Nat}{els:List D}(N:0<size)(M:els≠[])(k:iM B w I v e size els)(G:own v=some b):∃u,I.cell b 0=some u:=by
 obtain⟨xs,j,O,U,F⟩:=k
 have:0<xs.length:=by rw[j.1];exact abu (List.length_pos_iff.2 M) N
 exact⟨_,(F b G).2.1 0 _ (c4 this)⟩
def xA.cC{B:Nat}{w w':World}{I J:av}{m m':Nat->Value}{l l':List AO}{e size:Nat}{F:ME}{vs:List D}{U:Option Nat}(ai:∀v d,Rd I v d->Rd J v d)(ae:Gq w w' I J m m' l l')(aj:0<size)(al:F.1.size=vs.length)(k:xA B w I m l e size F vs U):xA B w' J m' l' e size F vs U:=by
 obtain⟨aa,ab,ag,ad⟩:=k
 have mr:∀i,i<F.1.size->U≠some i->∃u,I.cell (aa i) 0=some u:=λi hi j=>by
  obtain⟨els,_,Y,M,Z⟩:=ab i F.1[i] vs[i] j (e8 hi) (c4 (by omega))
  exact Z.mr aj Y M
 refine⟨aa,λi en d j af ah=>?_,ag,λq i N hi j G=>?_⟩
 ·obtain⟨els,ak,Y,M,Z⟩:=ab i en d j af ah
  refine⟨els,ak,Y,M,Z.cC ai λb G=>?_⟩
  rw[M]at G;injection G with G;subst G
  have hi:i<F.1.size:=(e7.1 af).1
  obtain⟨u,O⟩:=mr i hi j
  exact ae.stay _ u O λq N=>ad q i N hi j
 rcases ae.bg q _ N G with ⟨q',k1,k2⟩|hn
 ·exact ad q' i k1 hi j k2
 obtain⟨u,O⟩:=mr i hi j;rw[O]at hn;cases hn
def dH.gm{B:Nat}{w:World}{I:av}{m m':Nat->Value}{l l':List AO}{v:Value}{e size:Nat}{k vs:List D}{F:Option Nat}(ag:∀q,cy l' q=true->∃j,cy l j=true/\own (m j)=own (m' q))(h:dH B w I m l v (.bn e size k vs F)):dH B w I m' l' v (.bn e size k vs F):=by
 obtain⟨b,M,N,O,U,Y,Z,aa,ab,ad,ae,G,aj,ak,al⟩:=h
 refine⟨b,M,N,O,U,Y,Z,aa,ab,ad,ae,G,aj,ak,λq i ai hi ah af=>?_⟩
 obtain⟨j,an,ao⟩:=ag q ai
 exact al j i an hi ah (ao.trans af)
def dH.Kh{B:Nat}{w w':World}{I J:av}{m m':Nat->Value}{l l':List AO}{v:Value}{o:AO}(N:Le I m l J m' l')(ag:∀b,own v=some b->w'.heap[b]?=w.heap[b]?)(af:∀b,own v=some b->J.cell b=I.cell b/\J.mp b=I.mp b)(ar:o.te=false)(h:dH B w I m l v o):dH B w' J m' l' v o:=by
 cases o with
 |bn e size an vs aB=>cases ar
 |dead=>trivial
 |var ty cs=>
  obtain⟨b,vs,rfl,U,Y,M,F,ab⟩:=h
  refine⟨b,vs,rfl,U,(ag b rfl).trans Y,M,λi x t ae ht=>⟨(F i x t ae ht).1.mono N,(F i x t ae ht).2⟩,?_⟩
  obtain⟨G,O⟩:=af b rfl
  exact⟨λo=>by rw[G];exact ab.1 o,O.trans ab.2⟩
 |row e size els=>
  obtain⟨xs,U,Y,M,F⟩:=h
  refine⟨xs,vW U ag,Y,λj x y ae al=>(M j x y ae al).mono N.cR,λb ai=>?_⟩
  obtain⟨G,O⟩:=af b ai
  exact⟨λo=>by rw[G];exact(F b ai).1 o,O.trans (F b ai).2⟩
 |bg e size els=>
  obtain⟨xs,U,Y,M,F⟩:=h
  refine⟨xs,vW U ag,Y,λj x y ae al=>(M j x y ae al).mono N.cR,λb ai=>?_⟩
  obtain⟨G,O⟩:=af b ai
  obtain⟨aw,ax,ay⟩:=F b ai
  exact⟨O.trans aw,λj x ae=>by rw[G];exact ax j x ae,λj aq=>by rw[G];exact ay j aq⟩
 |map an vs=>
  obtain⟨b,aj,rfl,U,Y,M,F,ab,ad,ah⟩:=h
  obtain⟨G,O⟩:=af b rfl
  exact⟨b,aj,rfl,U,dL.to (ag b rfl) Y,M,F,λi e d aa Z=>(ab i e d aa Z).mono N.cR,λi e d aa Z=>(ad i e d aa Z).mono N.cR,λo=>by rw[G];exact ah.1 o,O.trans ah.2⟩
 |dE an vs=>
  obtain⟨b,aj,rfl,U,Y,M,F,ab,ad,ah,ak⟩:=h
  obtain⟨G,O⟩:=af b rfl
  exact⟨b,aj,rfl,U,dL.to (ag b rfl) Y,M,F,λi e d aa Z=>(ab i e d aa Z).mono N.cR,λi e d aa Z=>(ad i e d aa Z).mono N.cR,λo=>by rw[G];exact ah o,O.trans ak⟩
 |iter an vs done=>
  obtain⟨b,az,aj,seen,rfl,U,Y,M,F,ab,ad,ah,ak,ao⟩:=h
  obtain⟨G,O⟩:=af b rfl
  exact⟨b,az,aj,seen,rfl,U,(ag b rfl).trans Y,⟨λr au=>N.cR.mp _ _ (M.1 r au),M.2⟩,F,ab,λi e d aa Z=>(ad i e d aa Z).mono N.cR,λi e d aa Z=>(ah i e d aa Z).mono N.cR,ak,λo=>by rw[G];exact ao.1 o,O.trans ao.2⟩
 |frame base vals t=>exact⟨h.1,hF h.2.1 N.len,λk=>(h.2.2 k).mono (N.take base)⟩
 |loop base n ps aU aA t st cJ=>
  obtain⟨b,r,rfl,U,Y,M,F,ab,ad⟩:=h
  obtain⟨G,O⟩:=af b rfl
  exact⟨b,r,rfl,U,(ag b rfl).trans Y,M,hF F N.len,λk=>(ab k).mono (N.take base),λo=>by rw[G];exact ad.1 o,O.trans ad.2⟩
def dH.cC{B:Nat}{w w':World}{I J:av}{m m':Nat->Value}{l l':List AO}{v:Value}{o:AO}(j:Le I m l J m' l')(Y:∀b,own v=some b->w'.heap[b]?=w.heap[b]?)(O:∀b,own v=some b->J.cell b=I.cell b/\J.mp b=I.mp b)(aj:Gq w w' I J m m' l l')(h:dH B w I m l v o):dH B w' J m' l' v o:=by
 cases U:o.te with
 |false=>exact h.Kh j Y O U
 |true=>
  cases o with
  |bn e size ak vs al=>
   obtain⟨b,ab,rfl,ad,ae,af,G,ag,ah,M,N,ai⟩:=h
   obtain⟨Z,aa⟩:=O b rfl
   exact⟨b,ab,rfl,ad,dL.to (Y b rfl) ae,af,G,λi e d F k=>(ag i e d F k).mono j.cR,λi e d F k=>(ah i e d F k).mono j.cR,⟨λo=>by rw[Z];exact M.1 o,aa.trans M.2⟩,N,ai.cC (λ_ _ h=>h.mono j.cR) aj N G⟩
  |_=>cases U
def dH.lt{B:Nat}{w:World}{I:av}{m:Nat->Value}{l:List AO}{v:Value}{o:AO}(h:dH B w I m l v o)(Z:o ≠ .dead){b:Nat}(j:own v=some b):b<w.heap.size/\B<=b:=by
 cases o with
 |dead=>exact absurd rfl Z
 |var ty cs=>
  obtain⟨G,vs,rfl,k,F,_⟩:=h
  simp only[own,c5]at j
  subst j
  exact⟨(e7.1 F).1,k⟩
 |row e size els=>
  obtain⟨xs,k,_⟩:=h
  rcases k.2 with ⟨rfl,_⟩| ⟨g,Y,cur,rfl,N,O,_⟩
  ·simp[own]at j
  simp only[own,c5]at j
  subst j
  exact⟨(e7.1 O).1,N⟩
 |bg e size els=>
  obtain⟨xs,k,_⟩:=h
  rcases k.2 with ⟨rfl,_⟩| ⟨g,Y,cur,rfl,N,O,_⟩
  ·simp[own]at j
  simp only[own,c5]at j
  subst j
  exact⟨(e7.1 O).1,N⟩
 |map U vs=>
  obtain⟨G,M,rfl,k,F,_⟩:=h
  simp only[own,c5]at j
  subst j
  exact⟨(e7.1 F.1).1,k⟩
 |dE U vs=>
  obtain⟨G,M,rfl,k,F,_⟩:=h
  simp only[own,c5]at j
  subst j
  exact⟨(e7.1 F.1).1,k⟩
 |iter U vs done=>
  obtain⟨G,ab,M,seen,rfl,k,F,_⟩:=h
  simp only[own,c5]at j
  subst j
  exact⟨(e7.1 F).1,k⟩
 |bn e size U vs ad=>
  obtain⟨G,M,rfl,k,F,_⟩:=h
  simp only[own,c5]at j
  subst j
  exact⟨(e7.1 F.1).1,k⟩
 |frame base vals t=>rw[h.1]at j;cases j
 |loop base n ps aU aa t st cJ=>
  obtain⟨G,r,rfl,k,F,_⟩:=h
  simp only[own,c5]at j
  subst j
  exact⟨(e7.1 F).1,k⟩
def dH.GO{B:Nat}{w:World}{I:av}{m:Nat->Value}{l:List AO}{v:Value}{o:AO}(h:dH B w I m l v o)(Z:o ≠ .dead){b:Nat}(j:own v=some b):o.cy=true\/I.cell b 0=none:=by
 cases o with
 |dead=>exact absurd rfl Z
 |bg e size els=>exact .inl rfl
 |row e size els=>obtain⟨xs,_,_,_,N⟩:=h;exact .inr ((N b j).1 0)
 |frame base vals t=>rw[h.1]at j;cases j
 |var ty cs=>obtain⟨k,vs,rfl,_,_,_,_,O⟩:=h;injection j with j;subst j;exact .inr (O.1 0)
 |map M vs=>obtain⟨k,G,rfl,_,_,_,_,_,_,F⟩:=h;injection j with j;subst j;exact .inr (F.1 0)
 |dE M vs=>obtain⟨k,G,rfl,_,_,_,_,_,_,F,_⟩:=h;injection j with j;subst j;exact .inr (F 0)
 |iter M vs done=>obtain⟨k,ab,G,seen,rfl,_,_,_,_,_,_,_,_,Y⟩:=h;injection j with j;subst j;exact .inr (Y.1 0)
 |bn e size M vs ad=>obtain⟨k,G,rfl,_,_,_,_,_,_,F,_⟩:=h;injection j with j;subst j;exact .inr (F.1 0)
 |loop base n ps aU aa t st cJ=>obtain⟨k,r,rfl,_,_,_,_,_,U⟩:=h;injection j with j;subst j;exact .inr (U.1 0)
def dH.kX{B:Nat}{w:World}{I:av}{m:Nat->Value}{l:List AO}{v:Value}{o:AO}(h:dH B w I m l v o)(G:c8 w I)(U:o ≠ .dead){b:Nat}(j:own v=some b):¬I.df b:=by
 cases o with
 |dead=>exact absurd rfl U
 |var ty cs=>
  obtain⟨M,vs,rfl,F,k,_⟩:=h
  simp only[own,c5]at j
  subst j
  exact G.kX k (by simp)
 |row e size els=>obtain⟨xs,F,_⟩:=h;exact G.y1 F j
 |bg e size els=>obtain⟨xs,F,_⟩:=h;exact G.y1 F j
 |map O vs=>
  obtain⟨M,N,rfl,F,k,_⟩:=h
  simp only[own,c5]at j
  subst j
  exact G.kX k.1 (by simp)
 |dE O vs=>
  obtain⟨M,N,rfl,F,k,_⟩:=h
  simp only[own,c5]at j
  subst j
  exact G.kX k.1 (by simp)
 |iter O vs done=>
  obtain⟨M,Z,N,seen,rfl,F,k,_⟩:=h
  simp only[own,c5]at j
  subst j
  exact G.kX k (by simp)
 |bn e size O vs aa=>
  obtain⟨M,N,rfl,F,k,_⟩:=h
  simp only[own,c5]at j
  subst j
  exact G.kX k.1 (by simp)
 |frame base vals t=>rw[h.1]at j;cases j
 |loop base n ps aU Y t st cJ=>
  obtain⟨M,r,rfl,F,k,_⟩:=h
  simp only[own,c5]at j
  subst j
  exact G.kX k (by simp)
def bD{l:List AO}{id:Nat}:alive l id=true↔∃o,l[id]?=some o/\o ≠ .dead:=by
 unfold alive isVar isRow
 cases h:l[id]? with
 |none=>simp
 |some o=>cases o<;>simp[AO.isVar,AO.isRow]
section
variable {w0 w w':World}{I0 I J:av}{m:Nat->Value}{l:List AO}
theorem aE.call(h:aE w0 I0 w I m l)(F:dz w.heap.size w w')(B:fi w.heap.size I J)(Y:c8 w' J):aE w0 I0 w' J m l/\Le I m l J m l:=by
 have O:Le I m l J m l:=⟨B.le (λb j=>h.sat.j7 j),eb _,λ_ _ k=>⟨k,rfl⟩,λ_ _ k=>⟨k,rfl⟩,λ_ _ _ els _ k=>⟨els,k⟩⟩
 refine⟨⟨h.below.trans (F.mono h.below.size),Y,h.ext.trans B h.below.size,λid o M=>?_,h.sep⟩,O⟩
 by_cases j:o = .dead
 ·subst j;trivial
 exact(h.obj id o M).cC O (λb G=>F.block b ((h.obj id o M).lt j G).1) (λb G=>⟨B.cell b ((h.obj id o M).lt j G).1,B.mp b ((h.obj id o M).lt j G).1⟩) ⟨λb u N _=>⟨F.block b (h.sat.lt N),B.cell b (h.sat.lt N),B.mp b (h.sat.lt N)⟩,λq b U F=>.inl ⟨q,U,F⟩⟩
def aK(m:Nat->Value)(id:Nat)(v:Value):Nat->Value:=λk=>if k=id then v else m k
def dy(m:Nat->Value)(id:Nat)(v:Value):aK m id v id=v:=by simp[aK]
def bO(m:Nat->Value){id k:Nat}(v:Value)(h:k≠id):aK m id v k=m k:=by simp[aK,h]
theorem Le.new{nid:Nat}{o:AO}{v:Value}(M:l[nid]?=some .dead)(N:o.isRow=false):Le I m l I (aK m nid v) (l.set nid o):=by
 have B:∀id,id≠nid->(l.set nid o)[id]?=l[id]?:=λid h=>by rw[e5];simp[hW h]
 have O:nid<l.length:=(da.1 M).1
 have F:(l.set nid o)[nid]?=some o:=by rw[e5];simp[O]
 refine⟨.refl I,by simp,λid G k=>?_,λid G j=>?_,λid e size els G hh=>?_⟩
 ·have:id≠nid:=by rintro rfl;unfold isVar at k;rw[M]at k;simp[AO.isVar]at k
  refine⟨?_,bO m v this⟩
  unfold isVar;rw[B id this];exact k
 ·by_cases h:id=nid
  ·subst h;unfold isRow at j;rw[F]at j;simp[N]at j
  refine⟨?_,bO m v h⟩
  unfold isRow at j⊢;rw[B id h]at j;exact j
 by_cases h:id=nid
 ·subst h;rw[F]at hh;rcases hh with hh|hh<;>(injection hh with hh;subst hh;simp[AO.isRow]at N)
 rw[B id h]at hh;exact⟨els,hh⟩
theorem aE.alloc(h:aE w0 I0 w I m l)(ob:Obj){nid:Nat}{o:AO}{v:Value}(ag:l[nid]?=some .dead)(aq:o.isRow=false)(ai:own v=some w.heap.size)(ar:dH w0.heap.size (w.alloc ob) I (aK m nid v) (l.set nid o) v o):aE w0 I0 (w.alloc ob) I (aK m nid v) (l.set nid o):=by
 have an:Le I m l I (aK m nid v) (l.set nid o):=Le.new ag aq
 have ao:nid<l.length:=(da.1 ag).1
 have ae:(l.set nid o)[nid]?=some o:=by rw[e5];simp[ao]
 have Y:∀id,id≠nid->(l.set nid o)[id]?=l[id]?:=λid h=>by rw[e5];simp[hW h]
 have ah:∀id,id≠nid->alive (l.set nid o) id=true->∀b,own (m id)=some b->b<w.heap.size:=by
  intro id O ak b M
  obtain⟨o',k,B⟩:=bD.1 ak
  rw[Y id O]at k
  exact((h.obj id o' k).lt B M).1
 refine⟨h.below.alloc h.below.size ob,⟨λb o' u N=>?_,λb aj N=>?_,λb B=>(Below.heap_alloc w ob b (h.sat.j7 B)).trans (h.sat.df b B),h.sat.c7⟩,h.ext,λid o' k=>?_,λi j b U hi af F G=>?_⟩
 ·rw[vb w ob _ (h.sat.lt N)];exact h.sat.cell b o' u N
 ·have al:=h.sat.mp b aj N
  exact dL.to (Below.heap_alloc w ob b (h.sat.mR N)) al
 ·by_cases O:id=nid
  ·subst O;rw[ae]at k;injection k with k;subst k;rw[dy];exact ar
  rw[Y id O]at k;rw[bO m v O]
  by_cases B:o' = .dead
  ·subst B;trivial
  exact(h.obj id o' k).cC an (λb M=>Below.heap_alloc w ob b ((h.obj id o' k).lt B M).1) (λb _=>⟨rfl,rfl⟩) ⟨λb u au _=>⟨Below.heap_alloc w ob b (h.sat.lt au),rfl,rfl⟩,λq b Z M=>by
   by_cases ad:q=nid
   ·subst ad;unfold cy at Z;rw[ae]at Z
    cases o<;>simp_all [AO.cy,AO.isRow]
   rw[bO m v ad]at M;unfold cy at Z;rw[Y q ad]at Z;exact .inl ⟨q,Z,M⟩⟩
 by_cases aa:i=nid
 ·subst aa;rw[dy]at F;rw[bO m v (hW U)]at G
  rw[ai]at F;injection F with F
  have:=ah j (hW U) af b G;omega
 by_cases ab:j=nid
 ·subst ab;rw[dy]at G;rw[bO m v U]at F
  rw[ai]at G;injection G with G
  have:=ah i U hi b F;omega
 rw[bO m v aa]at F;rw[bO m v ab]at G
 refine h.sep i j b U ?_ ?_ F G
 ·obtain⟨o',k,B⟩:=bD.1 hi;rw[Y i aa]at k;exact bD.2 ⟨o',k,B⟩
 obtain⟨o',k,B⟩:=bD.1 af;rw[Y j ab]at k;exact bD.2 ⟨o',k,B⟩
def aE.push(h:aE w0 I0 w I m l):aE w0 I0 w I m (l++[.dead])/\Le I m l I m (l++[.dead]):=by
 have G:∀id,id<l.length->(l++[AO.dead])[id]?=l[id]?:=λid B=>e3 B
 have M:∀(id:Nat) o,(l++[AO.dead])[id]?=some o->o=AO.dead\/l[id]?=some o:=by
  intro id o k
  rcases Nat.lt_trichotomy id l.length with hl|hl|hl
  ·rw[G id hl]at k;exact .inr k
  ·subst hl;simp at k;exact .inl k.symm
  rw[hS (by simp;omega)]at k;cases k
 have Z:Le I m l I m (l++[.dead]):=by
  refine⟨.refl I,by simp,λid B aa=>⟨?_,rfl⟩,λid B N=>⟨?_,rfl⟩,λid e size els B Y=>⟨els,?_⟩⟩
  ·unfold isVar at aa⊢;rw[G id B];exact aa
  ·unfold isRow at N⊢;rw[G id B]at N;exact N
  rw[G id B]at Y;exact Y
 have O:∀id,alive (l++[AO.dead]) id=true->alive l id=true:=by
  intro id ab
  obtain⟨o,k,U⟩:=bD.1 ab
  rcases M id o k with he|he
  ·exact absurd he U
  exact bD.2 ⟨o,he,U⟩
 refine⟨⟨h.below,h.sat,h.ext,λid o k=>?_,λi j b ad hi ae=>h.sep i j b ad (O i hi) (O j ae)⟩,Z⟩
 rcases M id o k with rfl|he
 ·trivial
 exact(h.obj id o he).cC Z (λ_ _=>rfl) (λ_ _=>⟨rfl,rfl⟩) (Gq.id λq F=>by
  unfold cy at F⊢
  cases k:(l++[AO.dead])[q]? with
  |none=>simp[k]at F
  |some o=>
   rcases M q o k with rfl|h
   ·simp[k,AO.cy]at F
   rw[k]at F;rw[h];exact F)
end
end Go.ag
namespace Go.ag
open Go Go.RowKit
variable [bd]
def gO(P:Program)(t:TypeId):TD->Bool
 |.iH=>match P.underlying t with|some (.struct _)|some (.array _ _)|none=>false|_=>true
 |.dF k=>match P.underlying t with|some (.int B)=>k == B|_=>false
 |.string=>match P.underlying t with|some .string=>true|_=>false
 |.slice e=>match P.underlying t with|some (.slice j)=>e == j|_=>false
 |.struct fs=>match P.underlying t with|some (.struct gs)=>decide (fs=gs.toList.map λf=>(f.offset,f.type))&&(!GN fs||(gs.toList.all (λg=>g.name != "_") && !P.stoodInHeld t))|_=>false
 |.array n e=>match P.underlying t with|some (.array F j)=>n == F&&e == j|_=>false
 |.map k e=>match P.underlying t with|some (.map B j)=>k == B&&e == j|_=>false
def fG:List Value->List D->Bool
 | [],[]=>true
 |v::vs,d::ds=>oM v d&&fG vs ds
 |_,_=>false
def jY:Value->Bool
 |.agg _=>true
 |_=>false
def xi(P:Program)(t:TypeId)(i:TI):Bool:=
 match P.info? t with
 |some x=>x.size == i.size&&x.bytes == i.bytes&&(match x.zero with|some z=>fG z.cells.toList i.zero&&(jY z == i.desc.agg)|none=>false)&&gO P t i.desc&&decide (i.zero.length=i.size)
 |none=>false
def bZ(P:Program)(E:bW):Prop:=∀t i,E t=some i->xi P t i=true
def eO(P:Program)(f:FuncId)(ds:List D)(r:D):Prop:=
 ∀(w:World)(I:av)(vs:Array Value),c8 w I->vs.size=ds.length->(∀(i:Nat) v d,vs[i]?=some v->ds[i]?=some d->Rd I v d) ->
  Calls P f vs w λe w'=>∃v J,e = .returned v/\dz w.heap.size w w'/\fi w.heap.size I J/\c8 w' J/\Rd J v r
def Enters(P:Program)(f:FuncId):Prop:=∀(j:Array Value)(w:World),(callFunc f j).run P w = .ok (.enter f j) w
def G9(P:Program)(C:xt):Prop:=∀f ds r ob,C f ds=some (r,ob)->ob->Enters P f/\eO P f ds r
def sf(P:Program)(g:FuncId)(ts:List T)(l:List AO)(t:T)(l':List AO):Prop:=
 ∀(w0:World)(I0:av)(w:World)(I:av)(m:Nat->Value)(j:Array Value),aE w0 I0 w I m l->j.size=ts.length->(∀(i:Nat) v x,j[i]?=some v->ts[i]?=some x->ar I m l v x) ->
  Calls P g j w λe w'=>∃v,e = .returned v/\∃J m',Le I m l J m' l'/\aE w0 I0 w' J m' l'/\ar J m' l' v t
def Ha(P:Program)(F:BI):Prop:=∀g ts l r,F g ts l=some r->r.ob->Enters P g/\sf P g ts l r.t r.l
def im(P:Program)(g:FuncId)(ts:List T)(l:List AO)(K:T->List AO->Prop):Prop:=
 Enters P g/\∀(w0:World)(I0:av)(w:World)(I:av)(m:Nat->Value)(j:Array Value)(vals:Nat->Value)(ft:Tm),aE w0 I0 w I m l->j.size=ts.length->(∀(i:Nat) v x,j[i]?=some v->ts[i]?=some x->ar I m l v x)->(∀k,ar I m l (vals k) (get ft k)) ->
  Calls P g j w λe w'=>∃v,e = .returned v/\∃t l' J m',K t l'/\aE w0 I0 w' J m' l'/\ar J m' l' v t/\(∀b,I.df b->J.df b)/\∀k,ar J m' l' (vals k) (get ft k)
theorem im.mono{P:Program}{g:FuncId}{ts:List T}{l:List AO}{K j:T->List AO->Prop}(h:im P g ts l K)(O:∀t l',K t l'->j t l'):im P g ts l j:=
 ⟨h.1,λw0 I0 w I m k vals ft B F G M=>(h.2 w0 I0 w I m k vals ft B F G M).mono λ_ _ ⟨v,N,t,l',J,m',U,Y⟩=>⟨v,N,t,l',J,m',O t l' U,Y⟩⟩
def qj(P:Program)(k:TypeId->Option (List Lf)):Prop:=∀t ls,k t=some ls->∀(j:BinOp)(x y:Operand)(I:av)(u v:Value)(a b:D)(w:World),Rd I u a->Rd I v b ->
 ((∃p q,a = .bool p/\b = .bool q/\ls=[.bool])\/∃xs ys,a = .agg xs/\b = .agg ys/\ls≠[.bool]/\fk ls xs=true/\fk ls ys=true)->(j = .eql\/j = .neq) ->
 ((do eqGuard j t x y u v;binOp j t u v:Sem Value)).run P w = .ok (.bool (if j = .eql then ga a b else !(ga a b))) w
structure cn(P:Program)(V:Env):Prop where
 E:bZ P V.E
 C:G9 P V.C
 eq:qj P V.ja
 F:Ha P V.F
 prog:V.P=P
def bY(P:Program)(r:Result Next)(Q:Value->World->Prop):Prop:=
 match r with
 |.ok (.value v) w'=>Q v w'
 |.ok .skip w'=>Q undef w'
 |.ok (.enter f args) w'=>Calls P f args w' λe j=>∃v,e = .returned v/\Q v j
 |_=>False
theorem bY.mono{P:Program}{r:Result Next}{Q Q':Value->World->Prop}(h:bY P r Q)(j:∀v w,Q v w->Q' v w):bY P r Q':=by
 unfold bY at *
 split at h
 ·exact j _ _ h
 ·exact j _ _ h
 ·exact h.mono λe w ⟨v,k,B⟩=>⟨v,k,j _ _ B⟩
 exact h.elim
class bP where
 r:Option Nat
 cC:Nat->Prop
def cO[bP]:Fence:={Fence.wide with round:=bP.r}
def lC[bP](f:FuncId):cO.fn f:=trivial
def Ch[bP]{P:Program}{f:FuncId}{j:Array Value}{w:World}{R:Ending->World->Prop}(h:Calls P f j w R)(n:Nat):CallsIn cO n P f j w R:=by
 unfold cO
 cases bP.r with
 |none=>exact(w1 (n:=n)).2 h
 |some l=>exact CallsIn.inRound l ((w1 (n:=n)).2 h)
def bY.wpIn[bP]{P:Program}{o:Oper}{a:Act}{w:World}{K:Act->World->Prop}{Q:Exit->Act->World->Prop}(B:∀c,o.op ≠ .defer c)(h:bY P ((execOp a.eval o).run P w) λv w'=>K (a.put o.dst v) w'):o.wpIn cO 0 P a w K Q:=by
 unfold Oper.wpIn
 refine⟨λ_ _=>lC _,?_⟩
 rw[Oper.semAt_eq _ _ _ B]
 generalize (execOp a.eval o).run P w=r at *
 unfold bY at h
 split at h
 ·exact h
 ·exact h
 ·simp only[Oper.uponIn]
  refine⟨λh=>by simp[cO,Fence.wide]at h,Ch (h.mono λe w j=>?_) _⟩
  obtain⟨v,k,j⟩:=j
  subst k;exact j
 exact h.elim
section types
variable {P:Program}{E:bW}{t:TypeId}{i:TI}
def eI(h:xi P t i=true):∃x z,P.info? t=some x/\x.size=i.size/\x.bytes=i.bytes/\x.zero=some z/\fG z.cells.toList i.zero=true/\jY z=i.desc.agg/\gO P t i.desc=true/\i.zero.length=i.size:=by
 unfold xi at h
 cases B:P.info? t with
 |none=>simp[B]at h
 |some x=>
  simp only[B,dd,s4,ek]at h
  obtain⟨⟨⟨⟨F,G⟩,j⟩,M⟩,N⟩:=h
  cases k:x.zero with
  |none=>simp[k]at j
  |some z=>
   simp only[k,dd,s4]at j
   exact⟨x,z,rfl,F,G,k,j.1,j.2,M,N⟩
def kq(B:bZ P E)(h:E t=some i)(w:World):(sizeOf t).run P w = .ok i.size w:=by
 obtain⟨x,z,j,k,_⟩:=eI (B t i h)
 simp[sizeOf,typeInfo,j,k]
def w5(M:bZ P E)(h:E t=some i)(w:World):∃z,(zeroValue t).run P w = .ok z w/\fG z.cells.toList i.zero=true/\jY z=i.desc.agg/\i.zero.length=i.size:=by
 obtain⟨x,z,j,N,O,k,B,F,U,G⟩:=eI (M t i h)
 exact⟨z,by simp[zeroValue,typeInfo,j,k],B,F,G⟩
def lv(k:bZ P E){s b:Nat}{z:List D}{e:TypeId}(h:E t=some ⟨s,b,z,.slice e⟩):P.underlying t=some (.slice e):=by
 obtain⟨x,z',G,M,N,O,U,Y,j,_⟩:=eI (k t _ h)
 simp only[gO]at j
 split at j
 ·rename_i F B;simp at j;subst j;exact B
 cases j
def GK(k:bZ P E){s b:Nat}{z:List D}(h:E t=some ⟨s,b,z,.string⟩):P.underlying t=some .string:=by
 obtain⟨x,z',B,F,G,M,N,O,j,_⟩:=eI (k t _ h)
 simp only[gO]at j
 split at j
 ·assumption
 cases j
def By(k:bZ P E){s b n:Nat}{z:List D}{e:TypeId}(h:E t=some ⟨s,b,z,.array n e⟩):P.underlying t=some (.array n e):=by
 obtain⟨x,z',G,M,N,O,U,Y,j,_⟩:=eI (k t _ h)
 simp only[gO]at j
 split at j
 ·rename_i Z F B;simp at j;obtain⟨rfl,rfl⟩:=j;exact B
 cases j
def GL(B:bZ P E){s b:Nat}{z:List D}{fs:List (Nat×TypeId)}(h:E t=some ⟨s,b,z,.struct fs⟩):∃k,P.underlying t=some (.struct k)/\fs=k.toList.map λf=>(f.offset,f.type):=by
 obtain⟨x,z',G,M,N,O,U,Y,j,_⟩:=eI (B t _ h)
 simp only[gO]at j
 split at j
 ·rename_i k F;simp only[dd]at j;exact⟨k,F,hD j.1⟩
 cases j
def aau(B:bZ P E){s b:Nat}{z:List D}{fs:List (Nat×TypeId)}(h:E t=some ⟨s,b,z,.struct fs⟩)(M:GN fs=true):∃k,P.underlying t=some (.struct k)/\fs=k.toList.map (λf=>(f.offset,f.type))/\(∀g∈k.toList,g.name ≠ "_")/\P.stoodInHeld t=false:=by
 obtain⟨x,z',N,O,U,Y,Z,aa,j,_⟩:=eI (B t _ h)
 simp only[gO]at j
 split at j
 ·rename_i k F
  rw[M]at j
  simp only[qn,q9,dd,hC]at j
  exact⟨k,F,hD j.1,λg G=>by have:=dT.1 j.2.1 g G;simpa using this,j.2.2⟩
 cases j
def MO(F:bZ P E)(h:E t=some i)(w:World):(isAgg t).run P w = .ok i.desc.agg w:=by
 obtain⟨x,z',G,M,N,O,U,Y,B,_⟩:=eI (F t _ h)
 unfold isAgg
 cases k:P.underlying t with
 |none=>cases j:i.desc<;>simp[j,gO,k]at B
 |some d=>cases j:i.desc<;>cases d<;>simp[j,gO,k]at B<;>simp[hL k,TD.agg]
end types
def G7(I:av){v:Value}{d:D}(h:oM v d=true):Rd I v d/\d.one=true:=by
 unfold oM at h
 split at h
 all_goals first| (cases h;done)|skip
 all_goals try simp only[dd,s4]at h
 ·subst h;exact⟨.bool _,rfl⟩
 ·obtain⟨rfl,rfl⟩:=h;exact⟨.int _ _,rfl⟩
 ·have:=ByteArray.ext h;subst this;exact⟨.str _,rfl⟩
 ·exact⟨.jK _ _ _ (j5 _),rfl⟩
 ·exact⟨.dI,rfl⟩
 ·exact⟨.tz,rfl⟩
 ·exact⟨.iB,rfl⟩
 exact⟨.pE,rfl⟩
theorem oO(I:av):∀(vs:List Value)(ds:List D),fG vs ds=true->vs.length=ds.length/\(∀d∈ds,d.one=true)/\∀(i:Nat) v d,vs[i]?=some v->ds[i]?=some d->Rd I v d
 | [],[],_=>⟨rfl,by simp,by simp⟩
 |v::vs,d::ds,h=>by
  simp only[fG,dd]at h
  obtain⟨B,F,G⟩:=oO I vs ds h.2
  obtain⟨M,N⟩:=G7 I h.1
  refine⟨by simp[B],by simp[N];exact F,λi x y j k=>?_⟩
  rcases i with _|i
  ·simp at j k;subst j;subst k;exact M
  simp at j k;exact G i x y j k
 | [],_::_,h=>by simp[fG]at h
 |_::_,[],h=>by simp[fG]at h
end Go.ag
namespace Go.ag
open Go Go.RowKit
variable [bd]
def ei(l L:List AO):Prop:=∀(id:Nat),id<l.length->L[id]?=l[id]?
theorem ei.refl(l:List AO):ei l l:=λ_ _=>rfl
theorem ei.get{l L:List AO}(h:ei l L){id:Nat}{o:AO}(j:l[id]?=some o):L[id]?=some o:=(h id (da.1 j).1).trans j
def Rd.Lp{I:av}{v:Value}{d:D}(h:Rd I v d)(j:v.oneCell'=true):d.one=true:=by
 cases h<;>simp_all [D.one,Value.oneCell']
def AW{I:av}{m:Nat->Value}{L:List AO}{v:Value}{t:T}{x:D}(h:ar I m L v t)(j:gp t=some x):Rd I v x:=by
 cases h<;>simp[gp]at j
 ·subst j;assumption
 subst j;exact .jK _ _ _ (j5 _)
def Mn{I:av}{m:Nat->Value}{L:List AO}:∀(vs:List Value)(ts:List T)(ds:List D),ts.mapM gp=some ds->vs.length=ts.length->(∀(i:Nat) v t,vs[i]?=some v->ts[i]?=some t->ar I m L v t) ->
  vs.length=ds.length/\∀(i:Nat) v d,vs[i]?=some v->ds[i]?=some d->Rd I v d
 | [],[],ds,h,_,_=>by simp at h;subst h;simp
 |v::vs,t::ts,ds,h,j,F=>by
  simp only[mo,Option.bind_eq_bind,la,Option.pure_def,c5]at h
  obtain⟨x,O,xs,U,rfl⟩:=h
  obtain⟨G,M⟩:=Mn vs ts xs U (by simpa using j) (λi v t N ht=>F (i+1) v t (by simpa using N) (by simpa using ht))
  refine⟨by simp[G],λi u d B k=>?_⟩
  rcases i with _|i
  ·simp at B k;subst B;subst k
   exact AW (F 0 v t rfl rfl) O
  simp at B k;exact M i u d B k
 | [],_::_,_,_,j,_=>by simp at j
 |_::_,[],_,_,j,_=>by simp at j
def Bl{P:Program}{E:bW}{t:TypeId}{i:TI}(B:bZ P E)(h:E t=some i)(F:i.desc.agg=false):i.size=1:=by
 obtain⟨x,z,G,M,N,O,j,k,U,Y⟩:=eI (B t i h)
 rw[F]at k
 have Z:z.cells.toList.length=1:=by cases z<;>simp_all [jY,Value.cells]
 have:=(oO (I:=⟨λ_ _=>none,λ_=>none,λ_=>False⟩) _ _ j).1
 omega
def MP{P:Program}{E:bW}{t:TypeId}{i:TI}(k:bZ P E)(h:E t=some i)(w:World)(b o:Nat)(cs:List Value)(F:cs.length=i.size)(M:w.rangeAt b o cs) :
  (Instr.loadAt t (.pointer (some ⟨b,o,none⟩))).run P w = .ok (if i.desc.agg then .agg cs.toArray else cs.headD undef) w:=by
 have G:=MO k h
 have O:=kq k h
 cases B:i.desc.agg with
 |true=>
  have Y:(loadCells ⟨b,o,none⟩ cs.length).run P w = .ok cs.toArray w:=
   run_loadCells_list (P:=P) w ⟨b,o,none⟩ cs (λj v Z=>by rw[rr];exact M j v Z)
  simp only[Instr.loadAt,Instr.sureAddr,gj,Sem.run_pure,Result.andThen_ok,loadVar,G,B,O,<-F,Y,hQ]
 |false=>
  have N:=Bl k h B
  rw[N]at F
  match cs,F with
  | [c],_=>
   have U:w.cell? ⟨b,o,none⟩=some c:=by simpa using M 0 c rfl
   simp[Instr.loadAt,Instr.sureAddr,gj,Result.andThen_ok,loadVar,G,B,U,List.headD]
def X5{w:World}{b off n:Nat}{vs:Array Value}{ty:TypeId}{B:Nat×Nat}(h:w.heap[b]?=some (.cells vs ty B)):w.rangeAt b off ((vs.toList.drop off).take n):=by
 intro j v k
 rw[hg]at k
 split at k
 ·rw[k4]at k
  simp only[World.cell?,h]
  simpa using k
 cases k
def Iv:∀(ts:List T)(ds:List D),ts.mapM eQ=some ds->ts.mapM gp=some ds
 | [],ds,h=>h
 |t::ts,ds,h=>by
  simp only[mo,Option.bind_eq_bind,la,Option.pure_def,c5]at h⊢
  obtain⟨x,j,xs,k,rfl⟩:=h
  refine⟨x,?_,xs,Iv ts xs k,rfl⟩
  cases t<;>simp[eQ]at j
  subst j;rfl
theorem Eo{I:av}{m:Nat->Value}{L:List AO}{i:TI}{vs:List Value}{ts:List T}(G:vs.length=ts.length)(ab:vs.length=i.size)(U:i.desc.agg=false->i.size=1)(B:∀(j:Nat) v t,vs[j]?=some v->ts[j]?=some t->ar I m L v t/\v.oneCell'=true):ar I m L (if i.desc.agg then .agg vs.toArray else vs.headD undef) (fP i.desc.agg ts):=by
 cases Y:i.desc.agg with
 |true=>
  simp only[hQ,fP]
  cases Z:ts.mapM eQ with
  |none=>
   refine .agg _ _ (by simpa using G) (λj v k=>?_) (λj v t k ht=>(B j v t (by simpa using k) ht).1)
   have N:vs[j]?=some v:=by simpa using k
   have M:=(da.1 N).1
   exact(B j v _ N (c4 (by omega))).2
  |some ds=>
   obtain⟨aa,O⟩:=Mn vs ts ds (Iv ts ds Z) G (λj v t k ht=>(B j v t k ht).1)
   refine .d _ _ (.agg _ _ (by simpa using aa) (λd F=>?_) (λj v d k F=>O j v d (by simpa using k) F))
   obtain⟨j,M,rfl⟩:=hA.1 F
   have k:vs[j]?=some (vs[j]'(by omega)):=c4 (by omega)
   have ht:ts[j]?=some (ts[j]'(by omega)):=c4 (by omega)
   exact(O j _ _ k (c4 M)).Lp (B j _ _ k ht).2
 |false=>
  have:=U Y
  match vs,ts,G,(by omega:vs.length=1)with
  | [v],[t],_,_=>simpa [fP]using (B 0 v t rfl rfl).1
def flat_get{size:Nat}:∀(els:List D),(∀d∈els,d.cells.length=size)->∀(k j:Nat)(d:D),els[k]?=some d->j<size->(flat els)[k*size+j]?=d.cells[j]?
 | [],_,k,j,d,h,_=>by simp at h
 |e::els,F,k,j,d,h,M=>by
  have B:e.cells.length=size:=F e (by simp)
  simp only[flat,h8]
  rcases k with _|k
  ·simp at h;subst h
   rw[e3 (by omega)];simp
  simp at h
  rw[hJ (by rw[B,qs];omega)]
  have:=flat_get els (λd G=>F d (by simp[G])) k j d h M
  rw[B]
  rw[show(k+1)*size+j-size=k*size+j by rw[qs];omega]
  exact this
def gQ{size:Nat}:∀(els:List D),(∀d∈els,d.cells.length=size)->(flat els).length=els.length*size
 | [],_=>by simp[flat]
 |e::els,j=>by
  have:=gQ els (λd k=>j d (by simp[k]))
  simp only[flat,h8,e4,List.length_cons]at *
  rw[j e (by simp),this,qs];omega
theorem D2{P:Program}{E:bW}{ty:TypeId}{i:TI}(ab:bZ P E)(h:E ty=some i){w:World}{I:av}{m:Nat->Value}{L:List AO}{b o size k off:Nat}{els:List D}{val:Nat->Value}(ai:∀d∈els,d.cells.length=size/\∀x∈d.cells,x.one=true)(aq:∀j,j<els.length*size->w.cell? ⟨b,o+j,none⟩=some (val j))(aA:∀(j:Nat) x,(flat els)[j]?=some x->Rd I (val j) x)(G:(gV i size els k off).ob) :
  (gV i size els k off).bq = .none/\∃u,(Instr.loadAt ty (.pointer (some ⟨b,o+k*size+off,none⟩))).run P w = .ok u w/\ar I m L u (gV i size els k off).t:=by
 have aj:∀d∈els,d.cells.length=size:=λd N=>(ai d N).1
 have aa:k<els.length:=by unfold gV at G;split at G<;>exact G.1
 have af:els[k]?=some els[k]:=c4 aa
 have ae:ep els k=els[k]:=by simp[ep,af]
 have aD:off+i.size<=size:=by
  unfold gV at G;split at G
  ·rename_i O;omega
  exact G.2
 have ag:els[k]∈els:=hT aa
 have au:els[k].cells.length=size:=aj _ ag
 have ao:∀j,j<size->k*size+j<els.length*size:=λj B=>by
  have:(k+1)*size<=els.length*size:=k0 _ aa
  rw[qs]at this;omega
 have aB:w.rangeAt b (o+k*size+off) ((List.range i.size).map λj=>val (k*size+(off+j))):=by
  intro j v M
  simp only[e0]at M
  by_cases B:j<i.size
  ·simp[B]at M
   have:=aq (k*size+(off+j)) (ao _ (by omega))
   rw[show o+k*size+off+j=o+(k*size+(off+j)) by omega,this,M]
  simp[B]at M
 have aw:=MP ab h w b (o+k*size+off) _ (by simp) aB
 have ah:∀j,j<i.size->∀x,els[k].cells[off+j]?=some x->Rd I (val (k*size+(off+j))) x:=λj B x F=>
  aA _ x ((flat_get els aj k (off+j) els[k] af (by omega)).trans F)
 have az:∀x∈els[k].cells,x.one=true:=(ai _ ag).2
 refine⟨by unfold gV;split<;>rfl,_,aw,?_⟩
 have ad:∀ds:List D,ds=(els[k].cells.drop off).take i.size->ar I m L (if i.desc.agg then .agg ((List.range i.size).map λj=>val (k*size+(off+j))).toArray else((List.range i.size).map λj=>val (k*size+(off+j))).headD undef) (.d (ev i.desc.agg ds)):=by
  intro ds Z
  have Y:ds.length=i.size:=by rw[Z,fa,r1,au];omega
  have U:∀(j:Nat) x,ds[j]?=some x->j<i.size/\els[k].cells[off+j]?=some x:=by
   intro j x F
   have B:j<i.size:=by rw[<-Y];exact(da.1 F).1
   rw[Z,hg,if_pos B,k4]at F
   exact⟨B,F⟩
  cases al:i.desc.agg with
  |true=>
   simp only[hQ,ev]
   refine .d _ _ (.agg _ _ (by simp[Y]) (λd N=>?_) (λj v d M N=>?_))
   ·rw[Z]at N
    exact az d (s5 (n4 N))
   obtain⟨B,F⟩:=U j d N
   have:v=val (k*size+(off+j)):=by
    simp[B]at M
    exact M.symm
   rw[this];exact ah j B d F
  |false=>
   have ak:=Bl ab h al
   rw[ak]at Y⊢
   match ds,Y,U with
   | [x],_,U=>
    obtain⟨_,F⟩:=U 0 x rfl
    simp only[ev,List.headD,hX,ih]
    exact .d _ _ (by simpa using ah 0 (by omega) x F)
 by_cases O:size=i.size/\off=0
 ·simp only[gV,if_pos O]at G⊢
  have aE:size=i.size:=O.1
  have ay:off=0:=O.2
  have an:qN (ep els k)=i.desc.agg:=G.2
  have:=ad els[k].cells (by subst ay;rw[r2,lA (by omega)])
  rw[ae]at an⊢
  have ax:ev i.desc.agg els[k].cells=els[k]:=by
   cases aC:els[k]<;>simp_all [qN,ev,D.cells]
  rw[ax]at this
  exact this
 simp only[gV,if_neg O]
 rw[ae]
 exact ad _ rfl
section
variable {P:Program}{V:Env}{w0 w:World}{I0 I:av}{m:Nat->Value}{l L:List AO}
def MF{w:World}{B:Nat}{e:TypeId}{size n b c:Nat}{xs:List Value}(h:w.ownsRow B e size (.slice (some ⟨b,0,none⟩) n c) n xs):∀(j:Nat) x,xs[j]?=some x->w.cell? ⟨b,j,none⟩=some x:=by
 intro j x F
 rcases h.2 with ⟨k,_⟩| ⟨g,N,cur,k,Z,M,O,U,Y,G⟩
 ·cases k
 injection k with k _ _;injection k with k;injection k with k;subst k
 rw[<-G,hg]at F
 split at F
 ·simpa [World.cell?,M]using F
 cases F
def MG{B:Nat}{v:Value}{e:TypeId}{size b n c:Nat}{els:List D}{xs:List Value}(F:w.ownsRow B e size v els.length xs)(k:v = .slice (some ⟨b,0,none⟩) n c):els.length=n/\∀(j:Nat) x,xs[j]?=some x->w.cell? ⟨b,j,none⟩=some x:=by
 have G:els.length=n:=by
  rcases F.2 with ⟨q,_⟩| ⟨g,cap,cur,q,_⟩<;>rw[q]at k
  ·cases k
  injection k
 subst G;subst k
 exact⟨rfl,MF F⟩
theorem Kx(Y:bZ P V.E)(ae:aE w0 I0 w I m L)(Z:ei l L){ty:TypeId}{v:Value}{x:T}(N:ar I m L v x)(B:(eV V.E ty l x).ob) :
  (eV V.E ty l x).bq = .none/\∃u,(Instr.loadAt ty v).run P w = .ok u w/\ar I m L u (eV V.E ty l x).t:=by
 cases N with
 |ptr id b off U av=>
  simp only[eV]at B⊢
  cases hi:V.E ty with
  |none=>simp[hi,R.bad]at B
  |some i=>
   cases F:l[id]? with
   |none=>simp[hi,F,R.bad]at B
   |some o=>
    cases o with
    |var t' cs=>
     simp only[hi,F]at B⊢
     split at B
     ·rename_i au
      rw[if_pos au]
      obtain⟨ay,vs,G,al,O,an,af,az⟩:=ae.obj id _ (Z.get F)
      rw[av]at G;injection G with G;injection G with G;injection G with G;subst G
      have ao:((vs.toList.drop off).take i.size).length=i.size:=by simp;omega
      refine⟨rfl,_,MP Y hi w b off _ ao (X5 O),?_⟩
      refine Eo (by simp;omega) ao (Bl Y hi) (λj v t U ht=>?_)
      rw[hg]at U ht
      split at U
      ·rename_i M
       rw[if_pos M]at ht
       rw[k4]at U ht
       exact af (off+j) v t (by simpa using U) ht
      cases U
     simp[R.bad]at B
    |_=>simp[hi,F,R.bad]at B
 |br b o size els k off val al O an af=>
  simp only[eV]at B⊢
  cases hi:V.E ty with
  |none=>simp[hi,R.bad]at B
  |some i=>
   simp only[hi]at B⊢
   exact D2 Y hi O (λj M=>ae.sat.cell _ _ _ (an j M)) af B
 |bj a id k off al O=>
  simp only[eV]at B⊢
  cases hi:V.E ty with
  |none=>simp[hi,R.bad]at B
  |some i=>
   cases F:l[id]? with
   |none=>simp[hi,F,R.bad]at B
   |some o=>
    cases o with
    |row e size els=>
     simp only[hi,F]at B⊢
     obtain⟨b,n,c,ak,rfl⟩:=O e size els (.inl (Z.get F))
     obtain⟨xs,ab,ad,aj,ax⟩:=ae.obj id _ (Z.get F)
     obtain⟨aw,ag⟩:=MG ab ak
     have ai:xs.length=els.length*size:=ab.1
     have:=D2 (P:=P) (I:=I) (m:=m) (L:=L) (w:=w) (b:=b) (o:=0) (k:=k) (off:=off) (val:=λj=>(xs[j]?).getD undef) Y hi ad
      (
       λj M=>by rw[ia];exact ag j _ (by simp[ai,M])) (λj x N=>by
       have aq:j<els.length*size:=by rw[<-gQ els (λd ah=>(ad d ah).1)];exact(da.1 N).1
       have aa:xs[j]?=some (xs[j]'(by omega)):=c4 (by omega)
       rw[aa];exact aj j _ x aa N) B
     simpa using this
    |bg e size els=>
     simp only[hi,F]at B⊢
     obtain⟨b,n,c,ak,rfl⟩:=O e size els (.inr (Z.get F))
     obtain⟨xs,ab,ad,aj,ax⟩:=ae.obj id _ (Z.get F)
     obtain⟨aw,ag⟩:=MG ab ak
     have ai:xs.length=els.length*size:=ab.1
     have:=D2 (P:=P) (I:=I) (m:=m) (L:=L) (w:=w) (b:=b) (o:=0) (k:=k) (off:=off) (val:=λj=>(xs[j]?).getD undef) Y hi ad
      (
       λj M=>by rw[ia];exact ag j _ (by simp[ai,M])) (λj x N=>by
       have aq:j<els.length*size:=by rw[<-gQ els (λd ah=>(ad d ah).1)];exact(da.1 N).1
       have aa:xs[j]?=some (xs[j]'(by omega)):=c4 (by omega)
       rw[aa];exact aj j _ x aa N) B
     simpa using this
    |_=>simp[hi,F,R.bad]at B
 |_=>simp[eV,R.bad]at B
end
end Go.ag
namespace Go.ag
open Go Go.RowKit
variable [bd]
section
variable {P:Program}{V:Env}{w0 w:World}{I0 I:av}{m:Nat->Value}{l L:List AO}
def kR{l:List AO}{id:Nat}{o o':AO}(h:l[id]?=some o)(B:o.isVar=o'.isVar)(k:Nat):isVar (l.set id o') k=isVar l k:=by
 unfold isVar
 by_cases j:k=id
 ·subst j
  rw[e5,if_pos rfl,if_pos (da.1 h).1,h];simp[B]
 rw[e5,if_neg (hW j)]
def kQ{l:List AO}{id:Nat}{o o':AO}(h:l[id]?=some o)(B:o.isRow=o'.isRow)(k:Nat):isRow (l.set id o') k=isRow l k:=by
 unfold isRow
 by_cases j:k=id
 ·subst j
  rw[e5,if_pos rfl,if_pos (da.1 h).1,h];simp[B]
 rw[e5,if_neg (hW j)]
def Le.M7{id:Nat}{ty G:TypeId}{cs F:List T}(h:l[id]?=some (.var ty cs)):Le I m l I m (l.set id (.var G F)):=by
 refine⟨.refl I,by simp,λk _ B=>⟨(kR (o':=.var G F) h rfl k).trans B,rfl⟩,λk _ B=>⟨(kQ (o':=.var G F) h rfl k).symm.trans B,rfl⟩,λk e size els B j=>⟨els,?_⟩⟩
 by_cases M:k=id
 ·subst M;rw[e5,if_pos rfl,if_pos (da.1 h).1]at j;simp at j
 rw[e5,if_neg (hW M)]at j;exact j
theorem Gm(aH:bZ P V.E)(N:aE w0 I0 w I m l){id off b:Nat}{ty t':TypeId}{cs:List T}{x:T}{v:Value}(Z:l[id]?=some (.var t' cs))(al:m id = .pointer (some ⟨b,0,none⟩))(aU:ar I m l v x)(ae:(bm x).all T.fA=true)(ax:(bm x).length=bw V.E ty)(a6:0<(bm x).length)(aZ:off+(bm x).length<=cs.length) :
  ∃w',(Instr.storeAt ty (.pointer (some ⟨b,off,none⟩)) v).run P w = .ok () w'/\aE w0 I0 w' I m (l.set id (.var t' (setAt cs off (bm x)))):=by
 obtain⟨M,vs,aa,aV,ag,aC,aD,ah⟩:=N.obj id _ Z
 rw[al]at aa;injection aa with aa;injection aa with aa;injection aa with aa;subst aa
 have aM:v.cells.toList.length=(bm x).length/\(∀u∈v.cells.toList,u.oneCell'=true)/\∀(i:Nat) u t,v.cells.toList[i]?=some u->(bm x)[i]?=some t->ar I m l u t:=by
  have one:∀(u:Value),u.oneCell'=true->u.cells.toList=[u]:=λu B=>by cases u<;>simp_all [Value.oneCell',Value.cells]
  have O:∀(t:T),bm t=[t]->ar I m l v t->v.oneCell'=true->v.cells.toList.length=(bm t).length/\(∀u∈v.cells.toList,u.oneCell'=true)/\∀(i:Nat) u s,v.cells.toList[i]?=some u->(bm t)[i]?=some s->ar I m l u s:=by
   intro t ht aR aA
   rw[one v aA,ht]
   refine⟨rfl,by simpa using aA,λi u s B az=>?_⟩
   rcases i with _|i
   ·simp at B az;subst B;subst az;exact aR
   simp at B
  cases aU with
  |undef=>simp[bm,T.fA]at ae
  |d _ d ad=>
   by_cases ht:∃ds,d = .aJ ds
   ·obtain⟨ds,rfl⟩:=ht;simp[bm,D.cells,T.fA,D.one]at ae
   obtain⟨F,G,Y⟩:=ad.cells (λds e=>ht ⟨ds,e⟩)
   refine⟨by simp[bm,F],λu B=>?_,λi u t B af=>?_⟩
   ·obtain⟨i,hi,rfl⟩:=hA.1 B
    have au:i<d.cells.length:=by simp at hi;omega
    exact(Y i _ d.cells[i] (by rw[<-kd];exact c4 hi) (c4 au)).one (G _ (hT au))
   simp only[bm,e0]at af
   cases aj:d.cells[i]? with
   |none=>simp[aj]at af
   |some y=>
    simp[aj]at af
    subst af
    exact .d _ _ (Y i u y (by simpa using B) aj)
  |bu s=>exact O _ rfl (.bu s) rfl
  |ptr id b off F G=>exact O _ rfl (.ptr id b off F G) rfl
  |br b o size els k off val F G Y ao=>exact O _ rfl (.br b o size els k off val F G Y ao) rfl
  |aJ=>simp[bm,T.fA]at ae
  |cond=>simp[bm,T.fA]at ae
  |row A n c id F G=>exact O _ rfl (.row A n c id F G) rfl
  |bB A n c id x F G Y=>exact O _ rfl (.bB A n c id x F G Y) rfl
  |bj a id k off F G=>exact O _ rfl (.bj a id k off F G) rfl
  |map r id F G=>exact O _ rfl (.map r id F G) rfl
  |aB g vs ts F G=>exact O _ rfl (.aB g vs ts F G) rfl
  |aW id b F G=>exact O _ rfl (.aW id b F G) rfl
  |cw id b n c F G Y ao=>exact O _ rfl (.cw id b n c F G Y ao) rfl
  |sub A n c id lo hi F G=>exact O _ rfl (.sub A n c id lo hi F G) rfl
  |agg vs ts F G Y=>
   refine⟨by simp[bm,Value.cells,F],λu B=>?_,λi u t B ht=>Y i u t (by simpa [Value.cells]using B) (by simpa [bm]using ht)⟩
   obtain⟨i,hi,rfl⟩:=hA.1 B
   simp only[Value.cells]at hi⊢
   exact G i _ (by rw[<-kd];exact c4 hi)
 obtain⟨ai,aq,aF⟩:=aM
 have aS:(sizeOf ty).run P w = .ok v.cells.size w:=by
  cases hi:V.E ty with
  |none=>simp only[bw,hi,Option.map_none,Option.getD_none]at ax;omega
  |some i=>
   rw[kq aH hi w]
   simp only[bw,hi,Option.map_some,Option.getD_some]at ax
   rw[Array.length_toList]at ai;congr 1;omega
 have aT:=y0 P b off t' v.cells.toList 0 vs w ag (by rw[aC];omega) aq
 refine⟨_,by simp only[Instr.storeAt,Instr.sureAddr,gj,Sem.run_pure,Result.andThen_ok,storeVar,aS,ne_eq,iv,ih,aT];rfl,?_⟩
 simp only[Nat.add_zero]
 generalize ay:(vs.toList.take off++v.cells.toList++vs.toList.drop (off+v.cells.toList.length)).toArray=new
 have a1:b<w.heap.size:=(e7.1 ag).1
 have aO:(w.setRow b new).heap[b]?=some (.cells new t' (0,0)):=aba w b vs new t' (0,0) ag
 have aw:Le I m l I m (l.set id (.var t' (setAt cs off (bm x)))):=Le.M7 Z
 have aP:id<l.length:=(da.1 Z).1
 refine⟨N.below.trans ⟨rfl,rfl,rfl,by simp,λk aY=>p3 w b _ new (by omega),λ_=>eb _⟩,⟨λM o u ab=>?_,λM aG ab=>?_,λM ad=>(p3 w b _ new (λe=>by subst e;exact N.sat.kX ag (by simp) ad)).trans (N.sat.df M ad),N.sat.c7⟩,N.ext,λj o U=>?_,λi j M aQ hi U aK aL=>?_⟩
 ·have an:M≠b:=by rintro rfl;rw[ah.1]at ab;cases ab
  have:=N.sat.cell M o u ab
  exact(na (w:=w) (a:=⟨M,o,none⟩) (p3 w b _ new an)).trans this
 ·have an:M≠b:=by rintro rfl;rw[ah.2]at ab;cases ab
  have aN:=N.sat.mp M aG ab
  exact dL.to (p3 w b _ new an) aN
 ·by_cases ak:j=id
  ·subst ak
   rw[e5,if_pos rfl,if_pos aP]at U
   injection U with U;subst U
   refine⟨b,new,al,aV,aO,?_,λi u t B ht=>?_,ah⟩
   ·subst ay;simp[setAt,aC,e4,fa,r1]at ai⊢;omega
   subst ay
   have key:∀(i:Nat),(vs.toList.take off++v.cells.toList++vs.toList.drop (off+v.cells.toList.length))[i]?=some u->(setAt cs off (bm x))[i]?=some t->ar I m l u t/\u.oneCell'=true:=by
    intro i B ht
    have l1:(vs.toList.take off).length=off:=by simp;omega
    have aX:(cs.take off).length=off:=by simp;omega
    rw[j2,hK]at B
    rw[setAt,j2,hK]at ht
    rw[l1]at B;rw[aX]at ht
    by_cases hi:i<off
    ·rw[if_pos hi]at B ht
     rw[hg,if_pos hi]at B ht
     exact aD i u t (by simpa using B) ht
    rw[if_neg hi]at B ht
    rw[hK]at B ht
    rw[ai]at B
    by_cases av:i-off<(bm x).length
    ·rw[if_pos av]at B ht
     refine⟨aF _ u t B ht,aq u ?_⟩
     exact dn B
    rw[if_neg av]at B ht
    rw[k4]at B ht
    exact aD _ u t (by simpa using B) ht
   have:=key i (by simpa using B) ht
   exact⟨this.1.mono aw,this.2⟩
  rw[e5,if_neg (hW ak)]at U
  by_cases ad:o = .dead
  ·subst ad;trivial
  refine(N.obj j o U).cC aw (λM aI=>p3 w b _ new ?_) (λ_ _=>⟨rfl,rfl⟩) (.set (λM u B=>p3 w b _ new (λe=>by subst e;rw[ah.1]at B;cases B)) (λh=>by cases h))
  rintro rfl
  exact N.sep j id M ak (bD.2 ⟨o,U,ad⟩) (bD.2 ⟨_,Z,by simp⟩) aI (by rw[al];rfl)
 refine N.sep i j M aQ ?_ ?_ aK aL
 ·unfold alive at hi⊢;rwa [kR (o':=.var t' (setAt cs off (bm x))) Z rfl,kQ (o':=.var t' (setAt cs off (bm x))) Z rfl]at hi
 unfold alive at U⊢;rwa [kR (o':=.var t' (setAt cs off (bm x))) Z rfl,kQ (o':=.var t' (setAt cs off (bm x))) Z rfl]at U
end
end Go.ag
namespace Go.ag
open Go Go.RowKit
variable [bd]
section
variable {P:Program}{V:Env}{w0 w:World}{I0 I:av}{m:Nat->Value}{l L:List AO}
theorem aE.GD(h:aE w0 I0 w I m l){id:Nat}{o o':AO}{J:av}(B:l[id]?=some o)(ae:o.isVar=o'.isVar)(aa:o.isRow=o'.isRow)(ak:o'.isRow=true)(aw:∀e size els,(o' = .row e size els\/o' = .bg e size els)->∃els',(o = .row e size els'\/o = .bg e size els'))(Z:I.le J)(U:∀b,own (m id)≠some b->J.cell b=I.cell b/\J.mp b=I.mp b)(ax:c8 w J)(au:dH w0.heap.size w J m (l.set id o') (m id) o'):aE w0 I0 w J m (l.set id o')/\Le I m l J m (l.set id o'):=by
 have ai:id<l.length:=(da.1 B).1
 have ag:Le I m l J m (l.set id o'):=by
  refine⟨Z,by simp,λk _ Y=>⟨(kR B ae k).trans Y,rfl⟩,λk _ Y=>⟨(kQ B aa k).symm.trans Y,rfl⟩,λk e size els Y hh=>?_⟩
  by_cases aj:k=id
  ·subst aj;rw[e5,if_pos rfl,if_pos ai]at hh
   have ao:o' = .row e size els\/o' = .bg e size els:=by rcases hh with hh|hh<;>(injection hh with hh;simp[hh])
   obtain⟨els',hc⟩:=aw e size els ao
   exact⟨els',by rcases hc with hc|hc<;>rw[B,hc]<;>simp⟩
  rw[e5,if_neg (hW aj)]at hh;exact⟨els,hh⟩
 have O:o ≠ .dead:=by rintro rfl;rw[<-aa]at ak;simp[AO.isRow]at ak
 refine⟨⟨h.below,ax,⟨λ_ _ _ x=>Z.cell _ _ _ (h.ext.lc _ _ _ x),λ_ _ x=>Z.mp _ _ (h.ext.lm _ _ x),λb F x=>Z.df b (h.ext.ld b F x),λb F=>?_,λb F=>?_⟩,λj af G=>?_,λi j b aq hi G=>?_⟩,ag⟩
 ·by_cases N:own (m id)=some b
  ·have:=((h.obj id o B).lt O N).2;omega
  exact(U b N).1.trans (h.ext.cell b F)
 ·by_cases N:own (m id)=some b
  ·have:=((h.obj id o B).lt O N).2;omega
  exact(U b N).2.trans (h.ext.mp b F)
 ·by_cases ab:j=id
  ·subst ab;rw[e5,if_pos rfl,if_pos ai]at G;injection G with G;subst G;exact au
  rw[e5,if_neg (hW ab)]at G
  by_cases ah:af = .dead
  ·subst ah;trivial
  exact(h.obj j af G).cC ag (λ_ _=>rfl) (λb F=>U b (λan=>h.sep j id b ab (bD.2 ⟨af,G,ah⟩) (bD.2 ⟨o,B,O⟩) F an)) ⟨λb u al ad=>⟨rfl,U b λF=>(((h.obj id o B).GO O F).elim (λM=>ad id (by unfold cy;rw[B];exact M) F) λar=>by rw[ar]at al;cases al)⟩,λq b ad F=>(yG ad).elim (λM=>.inl ⟨q,M,F⟩) λM=>by
   obtain⟨rfl,_⟩:=M
   exact((h.obj q o B).GO O F).elim (λM=>.inl ⟨q,by unfold cy;rw[B];exact M,F⟩) .inr⟩
 refine h.sep i j b aq ?_ ?_
 ·unfold alive at hi⊢;rwa [kR (o':=o') B ae,kQ (o':=o') B aa]at hi
 unfold alive at G⊢;rwa [kR (o':=o') B ae,kQ (o':=o') B aa]at G
def av.dr(I:av)(b:Nat)(xs:List Value):av:=⟨λj o=>if j=b then(match xs[o]? with|some x=>some x|none=>I.cell b o)else I.cell j o,I.mp,I.df⟩
def av.r9(I:av)(b:Nat)(k:ME):av:=⟨I.cell,λj=>if j=b then some k else I.mp j,I.df⟩
def uh{J:av}{v:Value}{B:Nat}{e:TypeId}{size:Nat}{els:List D}{xs:List Value}(F:w.ownsRow B e size v els.length xs)(G:∀d∈els,d.cells.length=size/\∀x∈d.cells,x.one=true)(O:∀(j:Nat) x y,xs[j]?=some x->(flat els)[j]?=some y->Rd J x y)(U:∀b,own v=some b->∀(j:Nat) x,xs[j]?=some x->J.cell b j=some x):Rd J v (.slice size els):=by
 have ah:xs.length=els.length*size:=F.1
 rcases F.2 with ⟨rfl,Z⟩| ⟨g,N,cur,rfl,ad,ae,aa,ab,ai,aj⟩
 ·have:els=[]:=kb Z
  subst this
  exact .jK _ _ _ (j5 _)
 refine .slice g 0 els.length N size els (λj=>(xs[j]?).getD undef) rfl aa ab G (λj af=>?_) (λj x M=>?_)
 ·have k:xs[j]?=some (xs[j]'(by omega)):=c4 (by omega)
  rw[ia,k];exact U g rfl j _ k
 have ag:j<els.length*size:=by rw[<-gQ els (λd Y=>(G d Y).1)];exact(da.1 M).1
 have k:xs[j]?=some (xs[j]'(by omega)):=c4 (by omega)
 rw[k];exact O j _ x k M
def NY(M:aE w0 I0 w I m l){v:Value}{t:T}{x:D}{l':List AO}(ht:ar I m l v t)(k:cH l t=some (x,l')):∃J,Le I m l J m l'/\aE w0 I0 w J m l'/\Rd J v x/\l'.length=l.length:=by
 cases ht with
 |d v y aj=>simp[cH]at k;obtain⟨rfl,rfl⟩:=k;exact⟨I,.refl ..,M,aj,rfl⟩
 |bu s=>simp[cH]at k;obtain⟨rfl,rfl⟩:=k;exact⟨I,.refl ..,M,.jK _ _ _ (j5 _),rfl⟩
 |bB A n c id x aF ae aI=>simp[cH]at k;obtain⟨rfl,rfl⟩:=k;exact⟨I,.refl ..,M,aI,rfl⟩
 |row A n c id aF ae=>
  simp only[cH]at k
  cases N:l[id]? with
  |none=>simp[N]at k
  |some o=>
   cases o with
   |bg e s els=>
    simp only[N,c5,e1]at k
    obtain⟨rfl,rfl⟩:=k
    have aa:=ae (by simp[isRow,N,AO.isRow])
    obtain⟨xs,U,af,ag,an⟩:=M.obj id _ N
    rw[aa]at U an
    exact⟨I,.refl ..,M,uh U af ag (λb ai=>(an b ai).2.1),rfl⟩
   |row e s els=>
    simp only[N,c5,e1]at k
    obtain⟨rfl,rfl⟩:=k
    have aa:=ae (by simp[isRow,N,AO.isRow])
    obtain⟨xs,U,af,ag,an⟩:=M.obj id _ N
    rcases O:own (m id)with _|b
    ·
     have az:∀b,own (m id)≠some b:=λb h=>by rw[O]at h;cases h
     obtain⟨ak,al⟩:=M.GD (o':=.bg e s els) (J:=I) N rfl rfl rfl (λaD s' els' h=>by rcases h with h|h<;>cases h;exact⟨els,.inl rfl⟩) (.refl I) (λ_ _=>⟨rfl,rfl⟩) M.sat ⟨xs,U,af,ag,λb ai=>absurd ai (az b)⟩
     rw[aa]at U az
     exact⟨I,al,ak,uh U af ag (λb ai=>absurd ai (az b)),by simp⟩
    obtain⟨n1,aN⟩:=an b O
    let J:=I.dr b xs
    have aG:∀(j:Nat) x,xs[j]?=some x->J.cell b j=some x:=λj x ab=>by simp[J,av.dr,ab]
    have Y:I.le J:=⟨λG o u F=>by
     by_cases B:G=b
     ·subst B;rw[n1 o]at F;cases F
     simp[J,av.dr,B,F],λ_ _ h=>h,λ_ h=>h⟩
    have aL:∀G,some b≠some G->J.cell G=I.cell G/\J.mp G=I.mp G:=λG B=>⟨by funext o;simp[J,av.dr,show G≠b from λe=>B (by rw[e])],rfl⟩
    have aJ:∀(j:Nat) x,xs[j]?=some x->w.cell? ⟨b,j,none⟩=some x:=by
     rw[aa]at U O
     cases A with
     |none=>simp[own]at O
     |some a=>
      obtain⟨q,_⟩:∃ay,(Value.slice (some a) n c) = .slice (some ⟨b,0,none⟩) els.length ay/\True:=by
       rcases U.2 with ⟨q,_⟩| ⟨g,ay,cur,q,_⟩
       ·cases q
       rw[q]at O;simp[own]at O;subst O;exact⟨ay,q,trivial⟩
      rename_i aM
      rw[aM.1]at U
      exact MF U
    have aA:c8 w J:=⟨λG o u F=>by
     by_cases B:G=b
     ·subst B
      simp only[J,av.dr,hQ]at F
      cases ab:xs[o]? with
      |none=>simp only[ab]at F;rw[n1 o]at F;cases F
      |some x=>simp only[ab]at F;injection F with F;subst F;exact aJ o x ab
     simp only[J,av.dr,if_neg B]at F;exact M.sat.cell G o u F,M.sat.mp,M.sat.df,λg d h=>(M.sat.c7 g d h).mono Y⟩
    obtain⟨ak,al⟩:=M.GD (o':=.bg e s els) (J:=J) N rfl rfl rfl (λaD s' els' h=>by rcases h with h|h<;>cases h;exact⟨els,.inl rfl⟩) Y (λG B=>aL G (λe=>B (O.trans e))) aA
     ⟨xs,U,af,λj x y ab aj=>(ag j x y ab aj).mono Y,λG B=>by
      rw[O]at B;injection B with B;subst B
      exact⟨aN,aG,λj aK=>by simp only[J,av.dr,hQ,hS aK];exact n1 j⟩⟩
    rw[aa]at U O
    exact⟨J,al,ak,uh U af (λj x y ab aj=>(ag j x y ab aj).mono Y) (λG B=>by rw[O]at B;injection B with B;subst B;exact aG),by simp⟩
   |_=>simp[N]at k
 |map r id aF ae=>
  simp only[cH]at k
  cases N:l[id]? with
  |none=>simp[N]at k
  |some o=>
   cases o with
   |dE ao vs=>
    simp only[N,c5,e1]at k
    obtain⟨rfl,rfl⟩:=k
    have aa:=ae (by simp[isRow,N,AO.isRow])
    obtain⟨b,ah,Z,aH,aB,aq,au,aw,ax,aC,aO⟩:=M.obj id _ N
    rw[aa]at Z;injection Z with Z;subst Z
    exact⟨I,.refl ..,M,.map b ah ao vs aO aq au aw ax,rfl⟩
   |map ao vs=>
    simp only[N,c5,e1]at k
    obtain⟨rfl,rfl⟩:=k
    have aa:=ae (by simp[isRow,N,AO.isRow])
    obtain⟨b,ah,Z,aH,aB,aq,au,aw,ax,aC⟩:=M.obj id _ N
    have O:own (m id)=some b:=by rw[Z];rfl
    let J:=I.r9 b ah
    have Y:I.le J:=⟨λ_ _ _ h=>h,λG es' F=>by
     by_cases B:G=b
     ·subst B;rw[aC.2]at F;cases F
     simp[J,av.r9,B,F],λ_ h=>h⟩
    have aA:c8 w J:=⟨M.sat.cell,λG es' F=>by
     by_cases B:G=b
     ·subst B;simp only[J,av.r9,hQ]at F;injection F with F;subst F;exact aB
     simp only[J,av.r9,if_neg B]at F;exact M.sat.mp G es' F,M.sat.df,λg d h=>(M.sat.c7 g d h).mono Y⟩
    obtain⟨ak,al⟩:=M.GD (o':=.dE ao vs) (J:=J) N rfl rfl rfl (λaD s' els' h=>by rcases h with h|h<;>cases h) Y
     (λG B=>⟨rfl,by simp[J,av.r9,show G≠b from λe=>B (by rw[O,e])]⟩) aA
     ⟨b,ah,Z,aH,aB,aq,au,λi e d ad k=>(aw i e d ad k).mono Y,λi e d ad k=>(ax i e d ad k).mono Y,aC.1,by simp[J,av.r9]⟩
    rw[aa]at Z;injection Z with Z;subst Z
    exact⟨J,al,ak,.map b ah ao vs (by simp[J,av.r9]) aq au (λi e d ad k=>(aw i e d ad k).mono Y) (λi e d ad k=>(ax i e d ad k).mono Y),by simp⟩
   |_=>simp[N]at k
 |_=>simp[cH]at k
def Ht:∀(ts:List T)(l:List AO)(I:av)(vs:List Value)(ds:List D)(l':List AO),aE w0 I0 w I m l->vs.length=ts.length->(∀(i:Nat) v t,vs[i]?=some v->ts[i]?=some t->ar I m l v t)->cZ l ts=some (ds,l') ->
  ∃J,Le I m l J m l'/\aE w0 I0 w J m l'/\vs.length=ds.length/\(∀(i:Nat) v d,vs[i]?=some v->ds[i]?=some d->Rd J v d)/\l'.length=l.length
 | [],l,I,vs,ds,l',O,k,N,j=>by
  simp[cZ]at j;obtain⟨rfl,rfl⟩:=j
  have:vs=[]:=kb (by simpa using k)
  subst this
  exact⟨I,.refl ..,O,rfl,by simp,rfl⟩
 |t::ts,l,I,vs,ds,l',O,k,N,j=>by
  match vs,k with
  |v::vs,k=>
   simp only[cZ]at j
   cases G:cH l t with
   |none=>simp[G]at j
   |some p=>
    obtain⟨x,l1⟩:=p
    simp only[G]at j
    cases M:cZ l1 ts with
    |none=>simp[M]at j
    |some q=>
     obtain⟨xs,ad⟩:=q
     simp only[M,c5,e1]at j
     obtain⟨rfl,rfl⟩:=j
     obtain⟨Z,U,ag,ai,n1⟩:=NY O (N 0 v t rfl rfl) G
     obtain⟨aa,Y,ah,ae,af,aj⟩:=Ht ts l1 Z vs xs ad ag (by simpa using k) (λi v t ab ht=>(N (i+1) v t (by simpa using ab) (by simpa using ht)).mono U) M
     refine⟨aa,U.trans Y,ah,by simp[ae],λi u d F B=>?_,by omega⟩
     rcases i with _|i
     ·simp at F B;subst F;subst B;exact ai.mono Y.cR
     simp at F B;exact af i u d F B
def GA{l:List AO}{t:T}{x:D}{l':List AO}(k:jd l t=true)(h:cH l t=some (x,l')):l'=l:=by
 cases t<;>simp[jd,cH]at k h
 ·exact h.2.symm
 ·exact h.2.symm
 ·rename_i id
  cases j:l[id]? with
  |none=>simp[j]at k
  |some o=>cases o<;>simp[j]at k h;exact h.2.symm
 ·rename_i id
  cases j:l[id]? with
  |none=>simp[j]at k
  |some o=>cases o<;>simp[j]at k h;exact h.2.symm
 exact h.2.symm
def Hu:∀(ts:List T){l:List AO}{ds:List D}{l':List AO},ts.all (jd l)=true->cZ l ts=some (ds,l')->l'=l
 | [],l,ds,l',_,h=>by simp[cZ]at h;exact h.2.symm
 |t::ts,l,ds,l',B,h=>by
  simp only[List.all_cons,dd]at B
  simp only[cZ]at h
  cases j:cH l t with
  |none=>simp[j]at h
  |some p=>
   obtain⟨x,l1⟩:=p
   simp only[j]at h
   have:=GA B.1 j
   subst this
   cases k:cZ l1 ts with
   |none=>simp[k]at h
   |some q=>
    obtain⟨xs,F⟩:=q
    simp only[k,c5,e1]at h
    rw[<-h.2];exact Hu ts B.2 k
def NW{l L:List AO}(B:ei l L){t:T}{x:D}{l':List AO}(k:jd l t=true)(h:cH l t=some (x,l')):cH L t=some (x,L)/\jd L t=true:=by
 cases t<;>simp[jd,cH]at k h⊢
 ·exact h.1
 ·exact h.1
 ·rename_i id
  cases j:l[id]? with
  |none=>simp[j]at k
  |some o=>cases o<;>simp[j]at k h;simp[B.get j,h.1]
 ·rename_i id
  cases j:l[id]? with
  |none=>simp[j]at k
  |some o=>cases o<;>simp[j]at k h;simp[B.get j,h.1]
 exact h.1
def Hr:∀(ts:List T){l L:List AO}{ds:List D}{l':List AO},ei l L->ts.all (jd l)=true->cZ l ts=some (ds,l')->cZ L ts=some (ds,L)
 | [],l,L,ds,l',_,_,h=>by simp[cZ]at h⊢;exact h.1
 |t::ts,l,L,ds,l',F,k,h=>by
  simp only[List.all_cons,dd]at k
  simp only[cZ]at h⊢
  cases j:cH l t with
  |none=>simp[j]at h
  |some p=>
   obtain⟨x,l1⟩:=p
   simp only[j]at h
   have:=GA k.1 j
   subst this
   cases B:cZ l1 ts with
   |none=>simp[B]at h
   |some q=>
    obtain⟨xs,G⟩:=q
    simp only[B,c5,e1]at h
    rw[(NW F k.1 j).1]
    simp only[Hr ts F k.2 B,h.1]
def Xy{l L:List AO}(B:ei l L){t:T}(k:jd l t=true):jd L t=true:=by
 cases t<;>simp[jd]at k⊢
 ·rename_i id
  cases j:l[id]? with
  |none=>simp[j]at k
  |some o=>cases o<;>simp[j]at k;simp[B.get j]
 rename_i id
 cases j:l[id]? with
 |none=>simp[j]at k
 |some o=>cases o<;>simp[j]at k;simp[B.get j]
def X9{v:Value}{ts:List T}(h:ar I m l v (.agg ts)):∃vs:Array Value,v = .agg vs/\vs.size=ts.length/\(∀(i:Nat) v,vs[i]?=some v->v.oneCell'=true)/\∀(i:Nat) v t,vs[i]?=some v->ts[i]?=some t->ar I m l v t:=by
 cases h with
 |agg vs _ j k B=>exact⟨vs,rfl,j,k,B⟩
def xj{l:List AO}{ts:List T}{x:D}{l':List AO}(h:dc l (.agg ts)=some (x,l')):∃ds,x = .agg ds/\cZ l ts=some (ds,l'):=by
 simp only[dc]at h
 cases j:cZ l ts with
 |none=>rw[j]at h;cases h
 |some p=>
  obtain⟨ds,l1⟩:=p
  rw[j]at h;simp at h
  exact⟨ds,h.1.symm,by rw[h.2]⟩
def xk{l:List AO}{t:T}(h:∀ts,t ≠ .agg ts):dc l t=cH l t:=by
 cases t<;>first|rfl|exact absurd rfl (h _)
def L3{l:List AO}{t:T}(h:∀ts,t ≠ .agg ts):ng l t=jd l t:=by
 cases t<;>first|rfl|exact absurd rfl (h _)
theorem rZ(F:aE w0 I0 w I m l){v:Value}{t:T}{x:D}{l':List AO}(ht:ar I m l v t)(j:dc l t=some (x,l')):∃J,Le I m l J m l'/\aE w0 I0 w J m l'/\Rd J v x/\l'.length=l.length:=by
 by_cases B:∃ts,t = .agg ts
 ·obtain⟨ts,rfl⟩:=B
  obtain⟨ds,rfl,U⟩:=xj j
  obtain⟨vs,rfl,M,N,O⟩:=X9 ht
  obtain⟨J,le,ab,Y,G,aa⟩:=Ht ts l I vs.toList ds l' F (by simpa using M) (λi v t k ht=>O i v t (by simpa using k) ht) U
  have Z:vs.size=ds.length:=by simpa using Y
  refine⟨J,le,ab,.agg vs ds Z (λd j=>?_) (λi v d k j=>G i v d (by simpa using k) j),aa⟩
  obtain⟨i,hi,rfl⟩:=hA.1 j
  have k:vs[i]?=some (vs[i]'(by omega)):=e8 (by omega)
  exact(G i _ _ (by simpa using k) (c4 hi)).Lp (N i _ k)
 rw[xk λts h=>B ⟨ts,h⟩]at j
 exact NY F ht j
def nC:∀(ts:List T)(l:List AO)(I:av)(vs:List Value)(ds:List D)(l':List AO),aE w0 I0 w I m l->vs.length=ts.length->(∀(i:Nat) v t,vs[i]?=some v->ts[i]?=some t->ar I m l v t)->eP l ts=some (ds,l') ->
  ∃J,Le I m l J m l'/\aE w0 I0 w J m l'/\vs.length=ds.length/\(∀(i:Nat) v d,vs[i]?=some v->ds[i]?=some d->Rd J v d)/\l'.length=l.length
 | [],l,I,vs,ds,l',O,k,N,j=>by
  simp[eP]at j;obtain⟨rfl,rfl⟩:=j
  have:vs=[]:=kb (by simpa using k)
  subst this
  exact⟨I,.refl ..,O,rfl,by simp,rfl⟩
 |t::ts,l,I,vs,ds,l',O,k,N,j=>by
  match vs,k with
  |v::vs,k=>
   simp only[eP]at j
   cases G:dc l t with
   |none=>simp[G]at j
   |some p=>
    obtain⟨x,l1⟩:=p
    simp only[G]at j
    cases M:eP l1 ts with
    |none=>simp[M]at j
    |some q=>
     obtain⟨xs,ad⟩:=q
     simp only[M,c5,e1]at j
     obtain⟨rfl,rfl⟩:=j
     obtain⟨Z,U,ag,ai,n1⟩:=rZ O (N 0 v t rfl rfl) G
     obtain⟨aa,Y,ah,ae,af,aj⟩:=nC ts l1 Z vs xs ad ag (by simpa using k) (λi v t ab ht=>(N (i+1) v t (by simpa using ab) (by simpa using ht)).mono U) M
     refine⟨aa,U.trans Y,ah,by simp[ae],λi u d F B=>?_,by omega⟩
     rcases i with _|i
     ·simp at F B;subst F;subst B;exact ai.mono Y.cR
     simp at F B;exact af i u d F B
def Z3{l:List AO}{t:T}{x:D}{l':List AO}(k:ng l t=true)(h:dc l t=some (x,l')):l'=l:=by
 by_cases j:∃ts,t = .agg ts
 ·obtain⟨ts,rfl⟩:=j
  obtain⟨ds,rfl,B⟩:=xj h
  exact Hu ts k B
 rw[xk λts h=>j ⟨ts,h⟩]at h
 rw[L3 λts h=>j ⟨ts,h⟩]at k
 exact GA k h
def Z1{l L:List AO}(B:ei l L){t:T}{x:D}{l':List AO}(j:ng l t=true)(h:dc l t=some (x,l')):dc L t=some (x,L)/\ng L t=true:=by
 by_cases k:∃ts,t = .agg ts
 ·obtain⟨ts,rfl⟩:=k
  obtain⟨ds,rfl,F⟩:=xj h
  refine⟨by simp only[dc,Hr ts B j F],?_⟩
  simp only[ng,dT]at j⊢
  intro t ht
  exact Xy B (j t ht)
 rw[xk λts h=>k ⟨ts,h⟩]at h⊢
 rw[L3 λts h=>k ⟨ts,h⟩]at j⊢
 exact NW B j h
def Hw:∀(ts:List T){l L:List AO}{ds:List D}{l':List AO},ei l L->ts.all (ng l)=true->eP l ts=some (ds,l')->eP L ts=some (ds,L)
 | [],l,L,ds,l',_,_,h=>by simp[eP]at h⊢;exact h.1
 |t::ts,l,L,ds,l',F,k,h=>by
  simp only[List.all_cons,dd]at k
  simp only[eP]at h⊢
  cases j:dc l t with
  |none=>simp[j]at h
  |some p=>
   obtain⟨x,l1⟩:=p
   simp only[j]at h
   have:=Z3 k.1 j
   subst this
   cases B:eP l1 ts with
   |none=>simp[B]at h
   |some q=>
    obtain⟨xs,G⟩:=q
    simp only[B,c5,e1]at h
    rw[(Z1 F k.1 j).1]
    simp only[Hw ts F k.2 B,h.1]
end
end Go.ag
namespace Go.ag
open Go Go.RowKit
variable [bd]
def bS(P:Program)(w0:World)(I0:av)(o:Oper)(ρ:Operand->Value)(w:World)(I:av)(m:Nat->Value)(l L:List AO)(nid:Nat)(r:R):Prop:=
 match r.bq with
 |.none=>bY P ((execOp ρ o).run P w) λv w'=>∃J,Le I m L J m L/\aE w0 I0 w' J m L/\ar J m L v r.t
 |.new a=>L[nid]?=some .dead->bY P ((execOp ρ o).run P w) λv w'=>∃m',Le I m L I m' (L.set nid a)/\aE w0 I0 w' I m' (L.set nid a)/\ar I m' (L.set nid a) v r.t
 |.aK l'=>L=l->nid=l.length->bY P ((execOp ρ o).run P w) λv w'=>∃J m',Le I m l J m' l'/\aE w0 I0 w' J m' l'/\ar J m' l' v r.t
section
variable {P:Program}{V:Env}{w0 w:World}{I0 I:av}{m:Nat->Value}{l L:List AO}{nid:Nat}{o:Oper}{ρ:Operand->Value}{ρT:Operand->T}
theorem bS.val(B:aE w0 I0 w I m L){r:R}{u:Value}(j:r.bq = .none)(F:(execOp ρ o).run P w = .ok (.value u) w)(k:ar I m L u r.t):bS P w0 I0 o ρ w I m l L nid r:=by
 unfold bS
 rw[j]
 simp only[F,bY]
 exact⟨I,.refl ..,B,k⟩
def cm{v:Value}{x:D}(h:ar I m L v (.d x)):Rd I v x:=by cases h;assumption
def wW{v:Value}{pc:List (Nat×Bool×Bool)}{t:T}(h:ar I m L v (.cond pc t))(k:holds pc):ar I m L v t:=by cases h;rename_i _ j;exact j k
def Fz(Y:aE w0 I0 w I m L){c a b:Operand}(G:o.op = .pick c a b)(U:∀x∈o.op.operands,ar I m L (ρ x) (ρT x))(j:(nc (ρT c) (ρT a) (ρT b)).ob) :
  bS P w0 I0 o ρ w I m l L nid (nc (ρT c) (ρT a) (ρT b)):=by
 have ae:=U c (by simp[G,Op.operands])
 have N:=U a (by simp[G,Op.operands])
 have O:=U b (by simp[G,Op.operands])
 generalize ρT c=ah at *;generalize ρT a=af at *;generalize ρT b=ag at *
 unfold nc at j⊢
 split at j
 ·rename_i M
  have:=cm ae
  generalize ab:ρ c=ai at *
  cases this
  simp only at j⊢
  split at j
  ·rename_i x p y q k B
   have Z:M=true->Rd I (ρ a) (.bool x):=by
    intro F
    split at k
    ·simp at k;obtain⟨rfl,_⟩:=k;exact cm N
    ·rename_i pc ad
     simp only[c5,e1]at k;obtain⟨rfl,rfl⟩:=k
     exact cm (wW N (j.1 F))
    cases k
   have aa:M=false->Rd I (ρ b) (.bool y):=by
    intro F
    split at B
    ·simp at B;obtain⟨rfl,_⟩:=B;exact cm O
    ·rename_i pc ad
     simp only[c5,e1]at B;obtain⟨rfl,rfl⟩:=B
     exact cm (wW O (j.2 F))
    cases B
   refine bS.val Y rfl (u:=if M=true then ρ a else ρ b) ?_ ?_
   ·unfold execOp;simp only[G,ab,asBool,gj,Sem.run_pure,Result.andThen_ok]
   cases M with
   |true=>simpa using ar.d _ _ (Z rfl)
   |false=>simpa using ar.d _ _ (aa rfl)
  ·rename_i x p k B
   obtain⟨F,j⟩:=j
   subst F
   have Z:Rd I (ρ a) (.bool x):=by
    split at k
    ·simp at k;obtain⟨rfl,_⟩:=k;exact cm N
    ·rename_i pc ad
     simp only[c5,e1]at k;obtain⟨rfl,rfl⟩:=k
     exact cm (wW N (j trivial))
    cases k
   refine bS.val Y rfl (u:=ρ a) ?_ (.d _ _ Z)
   unfold execOp;simp only[G,ab,asBool,gj,Sem.run_pure,Result.andThen_ok,hQ]
  ·rename_i y q k B
   obtain⟨F,j⟩:=j
   subst F
   have aa:Rd I (ρ b) (.bool y):=by
    split at B
    ·simp at B;obtain⟨rfl,_⟩:=B;exact cm O
    ·rename_i pc ad
     simp only[c5,e1]at B;obtain⟨rfl,rfl⟩:=B
     exact cm (wW O (j trivial))
    cases B
   refine bS.val Y rfl (u:=ρ b) ?_ (.d _ _ aa)
   unfold execOp;simp only[G,ab,asBool,gj,Sem.run_pure,Result.andThen_ok,hX,ih]
  exact j.elim
 exact j.elim
def Ij{v:Value}{x:T}(af:ar I m L v x)(N:(bm x).all T.fA=true):v.cells.toList.length=(bm x).length/\(∀u∈v.cells.toList,u.oneCell'=true)/\∀(i:Nat) u t,v.cells.toList[i]?=some u->(bm x)[i]?=some t->ar I m L u t:=by
 have one:∀(u:Value),u.oneCell'=true->u.cells.toList=[u]:=λu F=>by cases u<;>simp_all [Value.oneCell',Value.cells]
 have G:∀(t:T),bm t=[t]->ar I m L v t->v.oneCell'=true->v.cells.toList.length=(bm t).length/\(∀u∈v.cells.toList,u.oneCell'=true)/\∀(i:Nat) u s,v.cells.toList[i]?=some u->(bm t)[i]?=some s->ar I m L u s:=by
  intro t ht ae ab
  rw[one v ab,ht]
  refine⟨rfl,by simpa using ab,λi u s F aa=>?_⟩
  rcases i with _|i
  ·simp at F aa;subst F;subst aa;exact ae
  simp at F
 cases af with
 |undef=>simp[bm,T.fA]at N
 |d _ d ad=>
  by_cases ht:∃ds,d = .aJ ds
  ·obtain⟨ds,rfl⟩:=ht;simp[bm,D.cells,T.fA,D.one]at N
  obtain⟨j,B,M⟩:=ad.cells (λds e=>ht ⟨ds,e⟩)
  refine⟨by simp[bm,j],λu F=>?_,λi u t F O=>?_⟩
  ·obtain⟨i,hi,rfl⟩:=hA.1 F
   have Z:i<d.cells.length:=by simp at hi;omega
   exact(M i _ d.cells[i] (by rw[<-kd];exact c4 hi) (c4 Z)).one (B _ (hT Z))
  simp only[bm,e0]at O
  cases U:d.cells[i]? with
  |none=>simp[U]at O
  |some y=>
   simp[U]at O
   subst O
   exact .d _ _ (M i u y (by simpa using F) U)
 |bu s=>exact G _ rfl (.bu s) rfl
 |ptr id b off j B=>exact G _ rfl (.ptr id b off j B) rfl
 |br b o size els k off val j B M Y=>exact G _ rfl (.br b o size els k off val j B M Y) rfl
 |aJ=>simp[bm,T.fA]at N
 |cond=>simp[bm,T.fA]at N
 |row A n c id j B=>exact G _ rfl (.row A n c id j B) rfl
 |bB A n c id x j B M=>exact G _ rfl (.bB A n c id x j B M) rfl
 |bj a id k off j B=>exact G _ rfl (.bj a id k off j B) rfl
 |map r id j B=>exact G _ rfl (.map r id j B) rfl
 |aB g vs ts j B=>exact G _ rfl (.aB g vs ts j B) rfl
 |aW id b j B=>exact G _ rfl (.aW id b j B) rfl
 |cw id b n c j B M Y=>exact G _ rfl (.cw id b n c j B M Y) rfl
 |sub A n c id lo hi j B=>exact G _ rfl (.sub A n c id lo hi j B) rfl
 |agg vs ts j B M=>
  refine⟨by simp[bm,Value.cells,j],λu F=>?_,λi u t F ht=>M i u t (by simpa [Value.cells]using F) (by simpa [bm]using ht)⟩
  obtain⟨i,hi,rfl⟩:=hA.1 F
  simp only[Value.cells]at hi⊢
  exact B i _ (by rw[<-kd];exact c4 hi)
def K0(k:aE w0 I0 w I m L)(j:L[nid]?=some .dead){ty:TypeId}{vs:Array Value}{cs:List T}(M:vs.toList.length=cs.length)(G:∀u∈vs.toList,u.oneCell'=true)(O:∀(i:Nat) u t,vs.toList[i]?=some u->cs[i]?=some t->ar I m L u t) :
  ∃m',Le I m L I m' (L.set nid (.var ty cs))/\aE w0 I0 (w.alloc (.cells vs ty)) I m' (L.set nid (.var ty cs))/\ar I m' (L.set nid (.var ty cs)) (.pointer (some ⟨w.heap.size,0,none⟩)) (.ptr nid 0):=by
 have B:Le I m L I (aK m nid (.pointer (some ⟨w.heap.size,0,none⟩))) (L.set nid (.var ty cs)):=Le.new j rfl
 have N:nid<L.length:=(da.1 j).1
 refine⟨_,B,k.alloc _ j rfl rfl ⟨w.heap.size,vs,rfl,k.below.size,w2 w _,by simpa using M,λi x t F ht=>?_,k.sat.dJ (eb _)⟩,?_⟩
 ·exact⟨(O i x t (by simpa using F) ht).mono B,G x (dn (by simpa using F:vs.toList[i]?=some x))⟩
 exact .ptr nid _ 0 (by unfold isVar;rw[e5,if_pos rfl,if_pos N];rfl) (dy m nid _)
def RJ(O:aE w0 I0 w I m L){e:TypeId}{x:Operand}(M:o.op = .box e x)(N:ar I m L (ρ x) (ρT x))(F:(bm (ρT x)).all T.fA=true) :
  bS P w0 I0 o ρ w I m l L nid ⟨.ptr nid 0,.new (.var e (bm (ρT x))),(bm (ρT x)).all T.fA=true⟩:=by
 intro G
 obtain⟨j,k,B⟩:=Ij N F
 have U:(execOp ρ o).run P w = .ok (.value (.pointer (some ⟨w.heap.size,0,none⟩))) (w.alloc (.cells (ρ x).cells e)):=by
  unfold execOp;simp[M,Instr.box,newVar,newRow]
 simp only[U,bY]
 exact K0 O G j k B
def xr:∀{vs:List Value}{ds:List D}{j:Nat}{v:Value}{d:D},fG vs ds=true->vs[j]?=some v->ds[j]?=some d->oM v d=true
 | [],[],_,_,_,_,h,_=>by simp at h
 |v::vs,d::ds,j,u,e,h,hu,k=>by
  simp only[fG,dd]at h
  rcases j with _|j
  ·simp at hu k;subst hu;subst k;exact h.1
  simp at hu k;exact xr h.2 hu k
 | [],_::_,_,_,_,h,_,_=>by simp[fG]at h
 |_::_,[],_,_,_,h,_,_=>by simp[fG]at h
def G8{v:Value}{d:D}(h:oM v d=true):ar I m L v (ij d):=by
 unfold ij
 split
 ·have:v = .slice none 0 0:=by
   cases v<;>simp[oM]at h
   rename_i a n c
   cases a<;>cases n<;>cases c<;>simp_all [oM]
  subst this;exact .bu _
 exact .d _ _ (G7 I h).1
def OI(N:bZ P V.E)(Z:aE w0 I0 w I m L){e:TypeId}{i:TI}(Y:o.op = .alloc e)(hi:V.E e=some i) :
  bS P w0 I0 o ρ w I m l L nid ⟨.ptr nid 0,.new (.var e (i.zero.map ij)),True⟩:=by
 intro U
 obtain⟨z,M,F,af,ag⟩:=w5 N hi w
 obtain⟨ab,ad,ae⟩:=oO I _ _ F
 have aa:(execOp ρ o).run P w = .ok (.value (.pointer (some ⟨w.heap.size,0,none⟩))) (w.alloc (.cells z.cells e)):=by
  unfold execOp;simp[Y,Instr.alloc,M,newVar,newRow]
 simp only[aa,bY]
 refine K0 Z U (by simpa using ab) (λu k=>?_) (λj u t k ht=>?_)
 ·obtain⟨j,O,rfl⟩:=hA.1 k
  have G:j<i.zero.length:=by omega
  exact(ae j _ _ (c4 O) (c4 G)).one (ad _ (hT G))
 rw[e0]at ht
 cases B:i.zero[j]? with
 |none=>simp[B]at ht
 |some d=>simp[B]at ht;subst ht;exact G8 (xr F k B)
theorem TY(Z:bZ P V.E){s:TypeId}{f:Nat}{v:Value}{x:T}(ai:ar I m L v x)(j:(jU V.E s f x).ob) :
  (jU V.E s f x).bq = .none/\∃u,(Instr.fieldAt s v f).run P w = .ok u w/\ar I m L u (jU V.E s f x).t:=by
 have key:∀{a:Addr}{sz U:Nat}{z:List D}{fs:List (Nat×TypeId)}{p:Nat×TypeId},V.E s=some ⟨sz,U,z,.struct fs⟩->fs[f]?=some p->0<bw V.E p.2 ->
   (Instr.fieldAt s (.pointer (some a)) f).run P w = .ok (.pointer (some (a.add p.1))) w:=by
  intro a sz U z fs p G F B
  obtain⟨Y,ah,rfl⟩:=GL Z G
  rw[e0]at F
  cases O:Y.toList[f]? with
  |none=>simp[O]at F
  |some g=>
   simp[O]at F
   subst F
   have ab:Y[f]?=some g:=by simpa using O
   have ag:∃n,(sizeOf g.type).run P w = .ok n w/\n≠0:=by
    cases hi:V.E g.type with
    |none=>simp[bw,hi]at B
    |some i=>exact⟨i.size,kq Z hi w,by simp[bw,hi]at B;omega⟩
   obtain⟨n,ae,af⟩:=ag
   simp[Instr.fieldAt,hL ah,ab,Instr.sureAddr,fieldPlace,ae,af]
 cases ai with
 |ptr id b off M N=>
  simp only[jU]at j⊢
  split at j
  ·rename_i fs G
   split at j
   ·rename_i p F
    split at j
    ·rename_i B
     simp only[if_pos B]
     exact⟨rfl,_,key G F B,by rw[rr];exact .ptr id b _ M N⟩
    exact j.elim
   exact j.elim
  exact j.elim
 |br b o size els k off val M N aj ak=>
  simp only[jU]at j⊢
  split at j
  ·rename_i fs G
   split at j
   ·rename_i p F
    split at j
    ·rename_i B
     simp only[if_pos B]
     refine⟨rfl,_,key G F B,?_⟩
     rw[rr,sm]
     exact .br b o size els k _ val M N aj ak
    exact j.elim
   exact j.elim
  exact j.elim
 |bj a id k off M N=>
  simp only[jU]at j⊢
  split at j
  ·rename_i fs G
   split at j
   ·rename_i p F
    split at j
    ·rename_i B
     simp only[if_pos B]
     refine⟨rfl,_,key G F B,.bj _ id k _ M λe size els ad=>?_⟩
     obtain⟨b,n,c,aa,rfl⟩:=N e size els ad
     exact⟨b,n,c,aa,by rw[rr,sm]⟩
    exact j.elim
   exact j.elim
  exact j.elim
 |_=>exact j.elim
end
end Go.ag
namespace Go.ag
open Go Go.RowKit
variable [bd]
section
variable {P:Program}{V:Env}{w0 w:World}{I0 I:av}{m:Nat->Value}{l L:List AO}{nid:Nat}{o:Oper}{ρ:Operand->Value}{ρT:Operand->T}
theorem TV(G:bZ P V.E){s:TypeId}{f:Nat}{v:Value}{x:T}(al:ar I m L v x)(k:(lL V.E s f x).ob) :
  (lL V.E s f x).bq = .none/\∃u,(Instr.field s v f).run P w = .ok u w/\ar I m L u (lL V.E s f x).t:=by
 unfold lL at k⊢
 split at k
 ·rename_i cs
  split at k
  ·rename_i fs aj
   split at k
   ·rename_i p M
    split at k
    ·rename_i i hi
     split at k
     ·rename_i ab
      simp only[if_pos ab]
      have:=cm al
      generalize F:D.agg cs=aq at this
      cases this<;>first| (cases F;done)|skip
      rename_i vs ds an ao ag
      injection F with F;subst F
      obtain⟨Y,af,rfl⟩:=GL G aj
      rw[e0]at M
      cases U:Y.toList[f]? with
      |none=>simp[U]at M
      |some g=>
       simp[U]at M;subst M
       have aa:Y[f]?=some g:=by simpa using U
       simp only at hi ab⊢
       have Z:=MO G hi
       have ak:=kq G hi
       cases O:i.desc.agg with
       |true=>
        refine⟨rfl,.agg (vs.extract g.offset (g.offset+i.size)),?_,?_⟩
        ·simp only[Instr.field,gj,hL af,Result.andThen_ok,aa,asAgg,Sem.run_pure,part,Z,O,hQ,ak]
        simp only[R.ok,ev,hQ]
        refine .d _ _ (.agg _ _ (by simp[an];omega) (λd ai=>ao d (s5 (n4 ai))) (λj u d N B=>?_))
        rw[hg]at B
        split at B
        ·rename_i au
         rw[k4]at B
         rw[Array.getElem?_extract]at N
         split at N
         ·exact ag _ u d N B
         cases N
        cases B
       |false=>
        have ah:=Bl G hi O
        have ad:g.offset<vs.size:=by omega
        refine⟨rfl,vs[g.offset],?_,?_⟩
        ·simp only[Instr.field,gj,hL af,Result.andThen_ok,aa,asAgg,Sem.run_pure,part,Z,O,hX,ih,e8 ad]
        have ae:g.offset<cs.length:=by omega
        have:((cs.drop g.offset).take i.size).headD .dI=cs[g.offset]:=by
         rw[ah,h9 ae];rfl
        simp only[R.ok,ev,hX,ih,this]
        exact .d _ _ (ag g.offset _ _ (e8 ad) (c4 ae))
     exact k.elim
    exact k.elim
   exact k.elim
  exact k.elim
 exact k.elim
def Ot{n:Int}(h: -9223372036854775808<=n/\n<=9223372036854775807):IntKind.i64.wrap n=n:=IntWalk.i64_in n (by omega)
def xI{k:IntKind}{n:Int}(h:(arith k n).2):(arith k n).1 = .int k (k.wrap n):=by
 cases k<;>simp only[arith]at h⊢
 rw[Ot h]
theorem RH(O:qj P V.ja){N:BinOp}{ty:TypeId}{x y:Operand}{u v:Value}{a b:D}(F:Rd I u a)(G:Rd I v b){r:D}{ob:Prop}(h:eB V.ja N ty a b=some (r,ob))(j:ob) :
  ∃z,((do eqGuard N ty x y u v;binOp N ty u v:Sem Value)).run P w = .ok z w/\Rd I z r:=by
 unfold eB at h
 split at h
 ·
  rename_i k p U q
  cases F;cases G
  have Z:∀w,0<=q->((do eqGuard .shr ty x y (.int k p) (.int U q);binOp .shr ty (.int k p) (.int U q):Sem Value)).run P w = .ok (.int k (pW k p q)) w:=λw aa=>by
   have M:(eqGuard .shr ty x y (.int k p) (.int U q)).run P w = .ok () w:=by rw[eqGuard_at_int];rfl
   have:¬q<0:=by omega
   simp only[gj,M,Result.andThen_ok]
   simp[binOp,Op.shift,this,pW]
  split at h
  ·unfold Ga at h
   split at h
   ·simp only[c5,e1]at h
    obtain⟨rfl,rfl⟩:=h
    exact⟨_,Z w j,.int _ _⟩
   cases h
  rename_i B
  have B:k=U:=Decidable.not_not.1 B
  subst B
  have M:∀w,(eqGuard N ty x y (.int k p) (.int k q)).run P w = .ok () w:=λw=>by rw[eqGuard_at_int];rfl
  simp only[gj,M,Result.andThen_ok]
  split at h<;>first| (cases h;done)|skip
  all_goals try simp only[c5,e1]at h
  ·obtain⟨rfl,rfl⟩:=h
   have:=Z w j
   simp only[gj,M,Result.andThen_ok]at this
   exact⟨_,this,.int _ _⟩
  ·obtain⟨rfl,rfl⟩:=h;exact⟨_,by simp[binOp,Op.intBits];rfl,.int _ _⟩
  ·obtain⟨rfl,rfl⟩:=h;exact⟨_,by rw[binOp_add];rfl,by rw[xI j];exact .int _ _⟩
  ·obtain⟨rfl,rfl⟩:=h;exact⟨_,by rw[binOp_sub];rfl,by rw[xI j];exact .int _ _⟩
  ·obtain⟨rfl,rfl⟩:=h;exact⟨_,by rw[binOp_mul];rfl,by rw[xI j];exact .int _ _⟩
  ·split at h
   ·simp only[c5,e1]at h
    obtain⟨rfl,rfl⟩:=h
    refine⟨.int .i64 (IntKind.i64.wrap (p.tdiv q)),by rw[binOp_quo];simp[Op.intDiv,j.1],?_⟩
    rw[Ot (by have:=j.2;omega)];exact .int _ _
   cases h
  ·obtain⟨rfl,rfl⟩:=h
   refine⟨.int k (p.tmod q),by rw[binOp_rem];simp[Op.intDiv,show q≠0 from j],?_⟩
   exact .int _ _
  ·obtain⟨rfl,rfl⟩:=h;exact⟨_,by rw[binOp_eql];rfl,by rw[show(p == q)=decide (p=q) by rw[hI];simp];exact .bool _⟩
  ·obtain⟨rfl,rfl⟩:=h;exact⟨_,by rw[binOp_neq];rfl,by rw[show(p != q) = !decide (p=q) by rw[hI];simp[bne]];exact .bool _⟩
  ·obtain⟨rfl,rfl⟩:=h;exact⟨_,by rw[binOp_lss];rfl,.bool _⟩
  ·obtain⟨rfl,rfl⟩:=h;exact⟨_,by rw[binOp_leq];rfl,.bool _⟩
  ·obtain⟨rfl,rfl⟩:=h;exact⟨_,by rw[binOp_gtr];rfl,.bool _⟩
  obtain⟨rfl,rfl⟩:=h;exact⟨_,by rw[binOp_geq];rfl,.bool _⟩
 ·
  rename_i p q
  split at h
  ·split at h
   ·rename_i B
    simp only[c5,e1]at h;obtain⟨rfl,rfl⟩:=h
    exact⟨_,O ty _ B .eql x y I u v _ _ w F G (.inl ⟨_,_,rfl,rfl,rfl⟩) (.inl rfl),by simp[ga];exact .bool _⟩
   cases h
  ·split at h
   ·rename_i B
    simp only[c5,e1]at h;obtain⟨rfl,rfl⟩:=h
    exact⟨_,O ty _ B .neq x y I u v _ _ w F G (.inl ⟨_,_,rfl,rfl,rfl⟩) (.inr rfl),by simp[ga];exact .bool _⟩
   cases h
  cases h
 ·
  rename_i p q
  cases F;cases G
  have M:∀w,(eqGuard N ty x y (.string p) (.string q)).run P w = .ok () w:=λw=>by rw[eqGuard_at_string];rfl
  simp only[gj,M,Result.andThen_ok]
  split at h<;>first| (cases h;done)|skip
  all_goals simp only[c5,e1]at h;obtain⟨rfl,rfl⟩:=h
  ·exact⟨.bool (p == q),by rw[abo];simp[binOp,Op.stringOp],.bool _⟩
  ·exact⟨.bool (!(p == q)),by rw[abo];simp[binOp,Op.stringOp],.bool _⟩
  exact⟨.string (p++q),by simp[binOp,Op.stringOp,j],.str _⟩
 ·
  rename_i xs ys
  split at h
  ·split at h
   ·rename_i ls B
    split at h
    ·cases h
    rename_i Y
    simp only[c5,e1]at h;obtain⟨rfl,rfl⟩:=h
    exact⟨_,O ty _ B .eql x y I u v _ _ w F G (.inr ⟨_,_,rfl,rfl,Y,j.1,j.2⟩) (.inl rfl),by simp[ga];exact .bool _⟩
   cases h
  ·split at h
   ·rename_i ls B
    split at h
    ·cases h
    rename_i Y
    simp only[c5,e1]at h;obtain⟨rfl,rfl⟩:=h
    exact⟨_,O ty _ B .neq x y I u v _ _ w F G (.inr ⟨_,_,rfl,rfl,Y,j.1,j.2⟩) (.inr rfl),by simp[ga];exact .bool _⟩
   cases h
  cases h
 cases h
theorem aaq{k:UnOp}{u:Value}{a:D}(j:Rd I u a){r:D}{ob:Prop}(h:uC k a=some (r,ob))(B:ob):∃z,(Op.unary k u).run P w = .ok z w/\Rd I z r:=by
 unfold uC at h
 split at h
 ·cases j
  split at h
  ·simp only[c5,e1]at h;obtain⟨rfl,rfl⟩:=h
   exact⟨_,by simp only[Op.unary,Sem.run_pure],.bool _⟩
  cases h
 ·cases j
  split at h
  ·simp only[c5,e1]at h;obtain⟨rfl,rfl⟩:=h
   exact⟨_,by simp[Op.unary,Op.intArith];rfl,by rw[xI B];simp;exact .int _ _⟩
  cases h
 cases h
def UN(ad:bZ P V.E)(aA:aE w0 I0 w I m L)(ax:ei l L){t:TypeId}{v ah:Value}{x i:T}(aq:ar I m L v x)(hi:ar I m L ah i)(B:(jB V.E t l x i).ob) :
  (jB V.E t l x i).bq = .none/\∃u,(Instr.indexAt t v ah).run P w = .ok u w/\ar I m L u (jB V.E t l x i).t:=by
 unfold jB at B⊢
 split at B
 ·rename_i e k n al G
  have ao:ah = .int k n:=by
   unfold cY at G
   split at G
   ·simp at G;obtain⟨rfl,rfl⟩:=G;have:=cm hi;cases this;rfl
   cases G
  subst ao
  have an:=lv ad al
  have key:∀(a:Addr)(len ai:Nat),0<=n->n<len->∀z,(V.E e).map TI.size=some z->(Instr.indexAt t (.slice (some a) len ai) (.int k n)).run P w = .ok (.pointer (some (a.add (n.toNat*z)))) w:=by
   intro a len ai U O z aa
   cases N:V.E e with
   |none=>simp[N]at aa
   |some au=>
    simp[N]at aa
    simp[Instr.indexAt,hL an,asIntOf,U,O,kq ad N,aa]
  have az:∀{size:Nat},size=bw V.E e/\0<size->(V.E e).map TI.size=some size:=by
   intro size F
   unfold bw at F
   cases N:V.E e with
   |none=>simp[N]at F;omega
   |some au=>simp[N]at F;simp[F.1]
  split at B
  ·rename_i size els
   split at B
   ·rename_i F
    simp only[if_pos F]
    obtain⟨U,O⟩:=B
    have:=cm aq
    generalize aj:D.slice size els=aJ at this
    cases this<;>first| (cases aj;done)|skip
    ·injection aj with aw ak;subst ak;simp at O;omega
    rename_i b off len c aM els' val Y Z ag av aH aI
    injection aj with aw ak;subst aw;subst ak
    refine⟨trivial,_,key _ len c U (by omega) size (az F),?_⟩
    rw[rr]
    have:=ar.br (I:=I) (m:=m) (l:=L) b off size els n.toNat 0 val (by omega) av (λj aB=>aH j (by rw[<-Y];exact aB)) aI
    simpa using this
   exact B.elim
  ·rename_i id
   have go:∀M size els,l[id]?=some (.row M size els)\/l[id]?=some (.bg M size els)->size=bw V.E e/\0<size->0<=n/\n<els.length ->
     ∃u,(Instr.indexAt t v (.int k n)).run P w = .ok u w/\ar I m L u (.bj id n.toNat 0):=by
    intro M size els ho F ⟨U,O⟩
    have ae:L[id]?=some (.row M size els)\/L[id]?=some (.bg M size els):=by rcases ho with ho|ho;exact .inl (ax.get ho);exact .inr (ax.get ho)
    have aF:∃A af c,v = .slice A af c/\m id=v:=by
     cases aq with
     |row A af c _ Y Z=>exact⟨A,af,c,rfl,Z (by unfold isRow;rcases ae with h|h<;>simp[h,AO.isRow])⟩
    obtain⟨A,af,c,rfl,aC⟩:=aF
    have aD:∃xs,w.ownsRow w0.heap.size M size (m id) els.length xs:=by
     rcases ae with h|h
     ·obtain⟨xs,ab,_⟩:=aA.obj id _ h;exact⟨xs,ab⟩
     obtain⟨xs,ab,_⟩:=aA.obj id _ h;exact⟨xs,ab⟩
    obtain⟨xs,ab⟩:=aD
    rcases ab.2 with ⟨_,q⟩| ⟨g,ai,cur,q,_⟩
    ·simp[q]at O;omega
    have aG:=aC.symm.trans q
    injection aG with Y Z ag
    subst Y;subst Z;subst ag
    refine⟨_,key _ _ _ U O size (az F),.bj _ id _ 0 ?_ λaK s1 aL hl=>⟨g,els.length,_,q,?_⟩⟩
    ·rcases ae with h|h<;>exact(da.1 h).1
    have:s1=size:=by rcases ae with h|h<;>rcases hl with hl|hl<;>rw[h]at hl<;>cases hl<;>rfl
    subst this
    rw[rr];simp
   split at B
   ·rename_i M size els ho
    split at B
    ·rename_i F
     simp only[if_pos F]
     exact⟨trivial,go M size els (.inl ho) F B⟩
    exact B.elim
   ·rename_i M size els ho
    split at B
    ·rename_i F
     simp only[if_pos F]
     exact⟨trivial,go M size els (.inr ho) F B⟩
    exact B.elim
   exact B.elim
  exact B.elim
 ·rename_i len e k n al G
  have ao:ah = .int k n:=by
   unfold cY at G
   split at G
   ·simp at G;obtain⟨rfl,rfl⟩:=G;have:=cm hi;cases this;rfl
   cases G
  subst ao
  have an:=By ad al
  split at B
  ·rename_i size els q off
   split at B
   ·rename_i ay
    simp only[if_pos ay]
    obtain⟨U,O⟩:=B
    obtain⟨au,N⟩:=k5.1 ay
    cases aq with
    |br b o _ _ _ _ val Y Z ag av=>
     refine⟨trivial,.pointer (some ⟨b,o+q*size+(off+n.toNat*bw V.E e),none⟩),?_,.br b o size els q _ val Y Z ag av⟩
     have aa:bw V.E e=au.size:=by simp[bw,N]
     simp[Instr.indexAt,Instr.sureAddr,hL an,asIntOf,U,O,kq ad N,aa,rr,sm]
   exact B.elim
  exact B.elim
 exact B.elim
end
end Go.ag
namespace Go.ag
open Go Go.RowKit
variable [bd]
def T6{size:Nat}(els:List D)(j:∀d∈els,d.cells.length=size)(k:Nat):flat (els.drop k)=(flat els).drop (k*size):=by
 induction els generalizing k with
 |nil=>simp[flat]
 |cons e els G=>
  have F:=j e (by simp)
  rcases k with _|k
  ·simp
  simp only[List.drop_succ_cons]
  rw[G (λd B=>j d (by simp[B])) k]
  simp only[flat,h8]
  rw[show(k+1)*size=e.cells.length+k*size by rw[F,qs];omega,<-tx,List.drop_left]
def Jt{size:Nat}(els:List D)(j:∀d∈els,d.cells.length=size)(k:Nat):flat (els.take k)=(flat els).take (k*size):=by
 induction els generalizing k with
 |nil=>simp[flat]
 |cons e els G=>
  have F:=j e (by simp)
  rcases k with _|k
  ·simp[flat]
  simp only[List.take_succ_cons]
  have:=G (λd B=>j d (by simp[B])) k
  simp only[flat,h8]at this⊢
  rw[show(k+1)*size=e.cells.length+k*size by rw[F,qs];omega,List.take_length_add_append,this]
def C0(a b:List D):flat (a++b)=flat a++flat b:=by simp[flat]
section
variable {P:Program}{V:Env}{w0 w:World}{I0 I:av}{m:Nat->Value}{l L:List AO}{nid:Nat}{o:Oper}{ρ:Operand->Value}{ρT:Operand->T}
def Mm{A:Option Addr}{n c lo hi size:Nat}{els:List D}(h:Rd I (.slice A n c) (.slice size els))(ad:lo<=hi)(M:hi<=els.length) :
  n=els.length/\n<=c/\Rd I (.slice (if c=lo then A else A.map (·.add (lo*size))) (hi-lo) (c-lo)) (.slice size ((els.take hi).drop lo)):=by
 cases h with
 |jK A c size N=>
  have:hi=0:=by simpa using M
  subst this
  have:lo=0:=by omega
  subst this
  refine⟨rfl,j5 _,?_⟩
  simpa using Rd.jK (I:=I) _ c size N
 |slice b off n c size els val Y Z af G aa ab=>
  refine⟨Y.symm,Z,?_⟩
  by_cases O:lo=hi
  ·subst O
   have:(els.take lo).drop lo=[]:=by simp
   rw[this,Nat.sub_self]
   exact .jK _ _ _ (by omega)
  have U:c≠lo:=by omega
  rw[if_neg U]
  simp only[Option.map_some,rr]
  have F:∀d∈els,d.cells.length=size:=λd j=>(G d j).1
  refine .slice b (off+lo*size) (hi-lo) (c-lo) size _ (λk=>val (lo*size+k)) (by simp;omega) (by omega) (by omega) (λd j=>G d (n4 (s5 j))) (λk ae=>?_) (λk x B=>?_)
  ·rw[sm]
   apply aa
   have:lo*size+(hi-lo)*size=hi*size:=by rw[<-qs];congr 1;omega
   have:hi*size<=n*size:=k0 _ (by omega)
   omega
  rw[T6 _ (λd j=>F d (n4 j)),Jt _ F,k4,hg]at B
  split at B
  ·exact ab _ x B
  cases B
theorem Nh(Z:bZ P V.E){t e:TypeId}{sz ag:Nat}{z:List D}(an:V.E t=some ⟨sz,ag,z,.slice e⟩){v:Value}{x:T}{lo hi:Option Operand}(aw:ar I m L v x)(ad:∀a,lo=some a->ar I m L (ρ a) (ρT a))(aa:∀a,hi=some a->ar I m L (ρ a) (ρT a))(au:∀size els,x = .d (.slice size els)->size=bw V.E e/\(V.E e).isSome=true)(j:(jh x (lo.map ρT) (hi.map ρT)).ob) :
  (jh x (lo.map ρT) (hi.map ρT)).bq = .none/\∃u,(Instr.sliceAt t v (lo.map ρ) (hi.map ρ) none).run P w = .ok u w/\ar I m L u (jh x (lo.map ρT) (hi.map ρT)).t:=by
 have af:=lv Z an
 have F:P.underlying t=some (.slice (P.elem t)):=by simp[Program.elem,af]
 have ak:P.elem t=e:=by simp[Program.elem,af]
 have hint:∀{a:T}{k:IntKind}{n:Int}{v:Value},cY a=some (k,n)->ar I m L v a->v = .int k n:=by
  intro a k n v B al
  unfold cY at B
  split at B
  ·simp at B;obtain⟨rfl,rfl⟩:=B;have:=cm al;cases this;rfl
  cases B
 unfold jh at j⊢
 split at j
 ·rename_i size els
  obtain⟨ao,aq⟩:=au size els rfl
  have Y:=cm aw
  obtain⟨A,n,c,rfl⟩:∃A n c,v = .slice A n c:=by cases Y<;>exact⟨_,_,_,rfl⟩
  obtain⟨ay,ab⟩:=k5.1 aq
  have ax:ay.size=size:=by rw[ao];simp[bw,ab]
  have N:(sizeOf (P.elem t)).run P w = .ok size w:=by rw[ak,kq Z ab,ax]
  have M:∀a b,(Instr.sliceAt t (.slice A n c) a b none).run P w=(Instr.slice t (.slice A n c) a b none).run P w:=λa b=>abg w t _ a b none F
  have fin:∀lo hi:Nat,lo<=hi->hi<=els.length->ar I m L (sliced A lo hi c size) (.d (.slice size ((els.take hi).drop lo))):=by
   intro lo hi ah ai
   obtain⟨_,_,aj⟩:=Mm Y ah ai
   refine .d _ _ ?_
   simpa [sliced]using aj
  obtain⟨ae,az,_⟩:=Mm Y (j5 els.length) (eb _)
  cases lo with
  |none=>
   cases hi with
   |none=>
    simp only[Option.map_none]at j⊢
    refine⟨rfl,_,by rw[M,run_slice_all w t A n c F,N];rfl,?_⟩
    have:=fin 0 els.length (j5 _) (eb _)
    rw[ae]
    simpa [R.ok]using this
   |some b=>
    simp only[Option.map_none,Option.map_some]at j⊢
    split at j
    ·rename_i k h U
     have G:=hint U (aa b rfl)
     simp only
     refine⟨trivial,_,by rw[M,G,run_slice_h w t A n c F _ _ j.1 (by omega),N];rfl,?_⟩
     have:=fin 0 h.toNat (j5 _) (by omega)
     simpa using this
    exact j.elim
  |some a=>
   cases hi with
   |none=>
    simp only[Option.map_none,Option.map_some]at j⊢
    split at j
    ·rename_i k h O
     have G:=hint O (ad a rfl)
     simp only
     refine⟨trivial,_,by rw[M,G,run_slice_l w t A n c F _ _ j.1 (by omega),N];rfl,?_⟩
     have:=fin h.toNat els.length (by omega) (eb _)
     rw[ae]
     simpa using this
    exact j.elim
   |some b=>
    simp only[Option.map_some]at j⊢
    split at j
    ·rename_i k g aA h O U
     have G:=hint O (ad a rfl)
     have av:=hint U (aa b rfl)
     simp only
     refine⟨trivial,_,by rw[M,G,av,run_slice_lh w t A n c F _ _ _ _ j.1 j.2.1 (by omega),N];rfl,?_⟩
     exact fin g.toNat h.toNat (by omega) (by omega)
    exact j.elim
 exact j.elim
end
end Go.ag
namespace Go.ag
open Go Go.RowKit
variable [bd]
section
variable {P:Program}{V:Env}{w0 w:World}{I0 I:av}{m:Nat->Value}{l L:List AO}
def C2{size:Nat}:∀(els:List D)(k:Nat)(x:D),(∀d∈els,d.cells.length=size)->k<els.length->flat (els.set k x)=(flat els).take (k*size)++x.cells++(flat els).drop (k*size+size)
 | [],k,x,_,hk=>by simp at hk
 |d::els,0,x,j,_=>by
  have B:=j d (by simp)
  simp[flat,<-B,Ds]
 |d::els,k+1,x,j,hk=>by
  have B:=j d (by simp)
  have O:=C2 els k x (λy N=>j y (by simp[N])) (by simpa using hk)
  have F:(k+1)*size=d.cells.length+k*size:=by rw[B,I1,abi]
  have G:flat (d::els)=d.cells++flat els:=by simp[flat]
  have M:flat (d::els.set k x)=d.cells++flat (els.set k x):=by simp[flat]
  rw[List.set_cons_succ,M,O,G,F,List.take_append,Ds]
  simp[lA,td,j2,show d.cells.length+k*size+size-d.cells.length=k*size+size by omega,List.drop_of_length_le (show d.cells.length<=d.cells.length+k*size+size by omega)]
def Gv{α:Type}(A V:List α)(p s j:Nat)(F:p+s<=j)(k:j<=A.length)(B:V.length=s):(A.take p++V++A.drop (p+s)).take j=(A.take j).take p++V++(A.take j).drop (p+s):=by
 apply ie
 intro i
 simp only[hg,hK,e4,fa,k4,B,pa (show p<=A.length by omega),pa k,pa (show p<=j by omega)]
 by_cases a:i<j
 ·by_cases b:i<p
  ·simp[a,b,show i<p+s by omega]
  by_cases c:i<p+s
  ·simp[a,b,c]
  simp[a,b,c,show p+s+(i-(p+s))<j by omega]
 simp[a,show ¬i<p by omega,show ¬i<p+s by omega,show ¬p+s+(i-(p+s))<j by omega]
theorem aE.Bs(F:aE w0 I0 w I m l){id b e size n c:Nat}{els els':List D}{cur new:Array Value}{xs:List Value}(G:l[id]?=some (.row e size els))(Z:m id = .slice (some ⟨b,0,none⟩) n c)(aw:w.heap[b]?=some (.cells cur e (0,0)))(au:(w.setRow b new).ownsRow w0.heap.size e size (.slice (some ⟨b,0,none⟩) n c) els'.length xs)(av:∀d∈els',d.cells.length=size/\∀x∈d.cells,x.one=true)(ar:∀(j:Nat) x y,xs[j]?=some x->(flat els')[j]?=some y->Rd I x y) :
  Le I m l I m (l.set id (.row e size els'))/\aE w0 I0 (w.setRow b new) I m (l.set id (.row e size els')):=by
 obtain⟨aG,aB,aC,aD,ax⟩:=F.obj id _ G
 have ae:id<l.length:=(da.1 G).1
 have aa:I.dJ b:=ax b (by rw[Z];rfl)
 have aA:w0.heap.size<=b:=((F.obj id _ G).lt (by simp) (by rw[Z];rfl)).2
 have ag:Le I m l I m (l.set id (.row e size els')):=by
  refine⟨.refl I,by simp,λk _ Y=>⟨(kR (o':=.row e size els') G rfl k).trans Y,rfl⟩,λk _ Y=>⟨(kQ (o':=.row e size els') G rfl k).symm.trans Y,rfl⟩,λk ay aF ai Y hh=>?_⟩
  by_cases af:k=id
  ·subst af;rw[e5,if_pos rfl,if_pos ae]at hh
   rcases hh with hh|hh
   ·injection hh with hh;injection hh with ak al az;subst ak;subst al;exact⟨els,.inl G⟩
   cases hh
  rw[e5,if_neg (hW af)]at hh;exact⟨ai,hh⟩
 refine⟨ag,⟨F.below.trans ⟨rfl,rfl,rfl,by simp[World.setRow],λk Y=>p3 w b _ new (by omega),λ_=>eb _⟩,⟨λB o u N=>?_,λB aj N=>?_,λB U=>(p3 w b _ new (λe=>by subst e;exact F.sat.kX aw (by simp) U)).trans (F.sat.df B U),F.sat.c7⟩,F.ext,λj o M=>?_,λi j B aq hi M an ao=>?_⟩⟩
 ·have ad:B≠b:=by rintro rfl;rw[aa.1]at N;cases N
  exact(na (w:=w) (a:=⟨B,o,none⟩) (p3 w b _ new ad)).trans (F.sat.cell B o u N)
 ·have ad:B≠b:=by rintro rfl;rw[aa.2]at N;cases N
  have hh:=F.sat.mp B aj N
  exact dL.to (p3 w b _ new ad) hh
 ·by_cases ab:j=id
  ·subst ab
   rw[e5,if_pos rfl,if_pos ae]at M
   injection M with M;subst M
   rw[Z]
   exact⟨xs,au,av,ar,λB O=>by injection O with O;subst O;exact aa⟩
  rw[e5,if_neg (hW ab)]at M
  by_cases U:o = .dead
  ·subst U;trivial
  refine(F.obj j o M).cC ag (λB O=>p3 w b _ new ?_) (λ_ _=>⟨rfl,rfl⟩) (.set (λB u ah=>p3 w b _ new (λe=>by subst e;rw[aa.1]at ah;cases ah)) (λh=>by cases h))
  rintro rfl
  exact F.sep j id B ab (bD.2 ⟨o,M,U⟩) (bD.2 ⟨_,G,by simp⟩) O (by rw[Z];rfl)
 refine F.sep i j B aq ?_ ?_ an ao
 ·unfold alive at hi⊢;rwa [kR (o':=.row e size els') G rfl,kQ (o':=.row e size els') G rfl]at hi
 unfold alive at M⊢;rwa [kR (o':=.row e size els') G rfl,kQ (o':=.row e size els') G rfl]at M
theorem Yp(ax:bZ P V.E)(an:aE w0 I0 w I m l){id k:Nat}{ty e size:Nat}{els:List D}{x:D}{v:Value}{a:Addr}(aa:l[id]?=some (.row e size els))(ay:ar I m l (.pointer (some a)) (.bj id k 0))(aP:Rd I v x)(U:x.cells.length=size)(aw:x.cells.all D.one=true)(ah:k<els.length)(aj:x.cells.length=bw V.E ty)(aV:0<x.cells.length) :
  ∃w',(Instr.storeAt ty (.pointer (some a)) v).run P w = .ok () w'/\Le I m l I m (l.set id (.row e size (els.set k x)))/\aE w0 I0 w' I m (l.set id (.row e size (els.set k x))):=by
 obtain⟨b,n,c,ai,az⟩:∃b n c,m id = .slice (some ⟨b,0,none⟩) n c/\a=⟨b,k*size+0,none⟩:=by
  cases ay with
  |bj _ _ _ _ au O=>exact O e size els (.inl aa)
 subst az
 obtain⟨xs,ao,ad,aq,aW⟩:=an.obj id _ aa
 rw[ai]at ao
 obtain⟨aQ,aC⟩:=ao
 rcases aC with ⟨ab,_⟩| ⟨g,aT,cur,ab,aA,Y,ak,aB,ae,aM⟩
 ·cases ab
 injection ab with N aN aO
 injection N with N;injection N with N;subst N;subst aN;subst aO
 have ht:∀ds,x ≠ .aJ ds:=λds e=>by subst e;simp[D.cells,D.one]at aw
 obtain⟨au,O,av⟩:=aP.cells ht
 have aI:∀u∈v.cells.toList,u.oneCell'=true:=by
  intro u B
  obtain⟨i,hi,rfl⟩:=hA.1 B
  have af:i<x.cells.length:=by simp at hi;omega
  exact(av i _ x.cells[i] (by rw[<-kd];exact c4 hi) (c4 af)).one (O _ (hT af))
 have M:v.cells.toList.length=size:=by simp[au,U]
 have aD:k*size+size<=els.length*size:=by
  have:(k+1)*size<=els.length*size:=k0 _ ah
  rw[I1]at this;exact this
 have aF:els.length*size<=cur.size:=by rw[ae];exact k0 _ ak
 have aK:(sizeOf ty).run P w = .ok v.cells.size w:=by
  cases hi:V.E ty with
  |none=>simp only[bw,hi,Option.map_none,Option.getD_none]at aj;omega
  |some i=>
   rw[kq ax hi w]
   simp only[bw,hi,Option.map_some,Option.getD_some]at aj
   congr 1;omega
 have aL:=y0 P b (k*size) e v.cells.toList 0 cur w Y (by rw[M];omega) aI
 refine⟨_,by simp only[Instr.storeAt,Instr.sureAddr,gj,Sem.run_pure,Result.andThen_ok,storeVar,aK,ne_eq,iv,ih,Nat.add_zero];exact aL,?_⟩
 simp only[Nat.add_zero,M]
 generalize aG:(cur.toList.take (k*size)++v.cells.toList++cur.toList.drop (k*size+size)).toArray=new
 have al:new.toList=cur.toList.take (k*size)++v.cells.toList++cur.toList.drop (k*size+size):=by subst aG;simp
 have aH:new.size=cur.size:=by
  rw[<-Array.length_toList,al]
  simp only[e4,fa,r1,Array.length_toList,M]at *
  omega
 have aR:new.toList.take (els.length*size)=xs.take (k*size)++v.cells.toList++xs.drop (k*size+size):=by
  rw[al,<-aM]
  exact Gv _ _ _ _ _ aD (by rw[Array.length_toList];exact aF) M
 refine an.Bs (n:=els.length) (c:=c) (cur:=cur) (xs:=xs.take (k*size)++v.cells.toList++xs.drop (k*size+size)) aa ai Y ⟨?_,.inr ⟨b,c,new,?_,aA,aba w b cur new e (0,0) Y,?_,aB,by rw[aH,ae],?_⟩⟩ ?_ ?_
 ·simp only[e4,fa,r1,aQ,M,pb];omega
 ·simp
 ·simpa using ak
 ·rw[pb];exact aR
 ·intro d G
  rcases List.mem_or_eq_of_mem_set G with G|rfl
  ·exact ad d G
  exact⟨U,O⟩
 intro j u y B F
 rw[C2 els k x (λd G=>(ad d G).1) ah]at F
 have aU:(flat els).length=els.length*size:=gQ els (λd G=>(ad d G).1)
 rw[j2,hK]at B F
 have l1:(xs.take (k*size)).length=k*size:=by rw[fa];omega
 have aS:((flat els).take (k*size)).length=k*size:=by rw[fa];omega
 rw[l1]at B;rw[aS]at F
 by_cases Z:j<k*size
 ·rw[if_pos Z]at B F
  rw[hg,if_pos Z]at B F
  exact aq j u y B F
 rw[if_neg Z]at B F
 rw[hK]at B F
 rw[M]at B;rw[U]at F
 by_cases ag:j-k*size<size
 ·rw[if_pos ag]at B F
  exact av _ u y (by simpa using B) F
 rw[if_neg ag]at B F
 rw[k4]at B F
 exact aq _ u y B F
def T7{size:Nat}{els:List D}(G:∀d∈els,d.cells.length=size){k off:Nat}{d:D}(F:els[k]?=some d){X:List D}(Y:off+X.length<=size) :
  (flat els).take (k*size)++(d.cells.take off++X++d.cells.drop (off+X.length))++(flat els).drop (k*size+size)=(flat els).take (k*size+off)++X++(flat els).drop (k*size+(off+X.length)):=by
 have B:=G d (dn F)
 obtain⟨M,rfl⟩:=da.1 F
 have e:flat els=flat (els.take k)++(els[k].cells++flat (els.drop (k+1))):=by
  conv=>lhs;rw[<-sh k els]
  unfold flat
  rw[List.flatMap_append,h9 M,h8]
 have j:(flat (els.take k)).length=k*size:=by rw[gQ (els.take k) (λd B=>G d (n4 B)),fa];congr 1;omega
 rw[e]
 have N:(flat (els.take k)++(els[k].cells++flat (els.drop (k+1)))).take (k*size)=flat (els.take k):=by rw[<-j];simp
 have t2:(flat (els.take k)++(els[k].cells++flat (els.drop (k+1)))).drop (k*size+size)=flat (els.drop (k+1)):=by rw[<-j,<-B];simp
 have O:(flat (els.take k)++(els[k].cells++flat (els.drop (k+1)))).take (k*size+off)=flat (els.take k)++els[k].cells.take off:=by
  rw[<-j,List.take_append,lA (by omega),td,J5 (by omega)]
 have U:(flat (els.take k)++(els[k].cells++flat (els.drop (k+1)))).drop (k*size+(off+X.length))=els[k].cells.drop (off+X.length)++flat (els.drop (k+1)):=by
  rw[<-j,Ds,lB (by omega),td,Kd (by omega),List.nil_append]
 rw[N,t2,O,U]
 simp
theorem MD(az:bZ P V.E)(aq:aE w0 I0 w I m l){id k off:Nat}{ty e size:Nat}{els cs:List D}{x:D}{v:Value}{a:Addr}(ae:l[id]?=some (.row e size els))(aA:ar I m l (.pointer (some a)) (.bj id k off))(aS:Rd I v x)(O:els[k]?=some (.agg cs))(aK:off+x.cells.length<=size)(ay:x.cells.all D.one=true)(aj:k<els.length)(al:x.cells.length=bw V.E ty)(a1:0<x.cells.length) :
  ∃w',(Instr.storeAt ty (.pointer (some a)) v).run P w = .ok () w'/\Le I m l I m (l.set id (.row e size (els.set k (.agg (setAt cs off x.cells)))))/\aE w0 I0 w' I m (l.set id (.row e size (els.set k (.agg (setAt cs off x.cells))))):=by
 obtain⟨b,n,c,ak,aB⟩:∃b n c,m id = .slice (some ⟨b,0,none⟩) n c/\a=⟨b,k*size+off,none⟩:=by
  cases aA with
  |bj _ _ _ _ aw Z=>exact Z e size els (.inl ae)
 subst aB
 obtain⟨xs,au,Y,av,a6⟩:=aq.obj id _ ae
 rw[ak]at au
 obtain⟨aT,aF⟩:=au
 rcases aF with ⟨af,_⟩| ⟨g,aW,cur,af,aC,ab,an,aD,ag,aP⟩
 ·cases af
 injection af with N aQ aR
 injection N with N;injection N with N;subst N;subst aQ;subst aR
 have ht:∀ds,x ≠ .aJ ds:=λds e=>by subst e;simp[D.cells,D.one]at ay
 obtain⟨aw,Z,ax⟩:=aS.cells ht
 have aL:∀u∈v.cells.toList,u.oneCell'=true:=by
  intro u B
  obtain⟨i,hi,rfl⟩:=hA.1 B
  have ah:i<x.cells.length:=by simp at hi;omega
  exact(ax i _ x.cells[i] (by rw[<-kd];exact c4 hi) (c4 ah)).one (Z _ (hT ah))
 obtain⟨F,aa⟩:∃F,F=x.cells.length:=⟨_,rfl⟩
 have G:v.cells.toList.length=F:=by simp[aw,aa]
 have aZ:k*size+size<=els.length*size:=by
  have:(k+1)*size<=els.length*size:=k0 _ aj
  rw[I1]at this;exact this
 have aG:els.length*size<=cur.size:=by rw[ag];exact k0 _ an
 have aM:(sizeOf ty).run P w = .ok v.cells.size w:=by
  cases hi:V.E ty with
  |none=>simp only[bw,hi,Option.map_none,Option.getD_none]at al;omega
  |some i=>
   rw[kq az hi w]
   simp only[bw,hi,Option.map_some,Option.getD_some]at al
   congr 1;omega
 have aO:=y0 P b (k*size+off) e v.cells.toList 0 cur w ab (by rw[G];omega) aL
 refine⟨_,by simp only[Instr.storeAt,Instr.sureAddr,gj,Sem.run_pure,Result.andThen_ok,storeVar,aM,ne_eq,iv,ih,Nat.add_zero];exact aO,?_⟩
 simp only[Nat.add_zero,G]
 generalize aH:(cur.toList.take (k*size+off)++v.cells.toList++cur.toList.drop (k*size+off+F)).toArray=new
 have ao:new.toList=cur.toList.take (k*size+off)++v.cells.toList++cur.toList.drop (k*size+off+F):=by subst aH;simp
 have aI:new.size=cur.size:=by
  rw[<-Array.length_toList,ao]
  simp only[e4,fa,r1,Array.length_toList,G]at *
  omega
 have aU:new.toList.take (els.length*size)=xs.take (k*size+off)++v.cells.toList++xs.drop (k*size+off+F):=by
  rw[ao,<-aP]
  exact Gv _ _ _ _ _ (by omega) (by rw[Array.length_toList];exact aG) G
 have U:∀d∈els,d.cells.length=size:=λd M=>(Y d M).1
 have aX:cs.length=size:=U (.agg cs) (dn O)
 have aN:(setAt cs off x.cells).length=size:=by unfold setAt;simp;omega
 refine aq.Bs (n:=els.length) (c:=c) (cur:=cur) (xs:=xs.take (k*size+off)++v.cells.toList++xs.drop (k*size+off+F)) ae ak ab ⟨?_,.inr ⟨b,c,new,?_,aC,aba w b cur new e (0,0) ab,?_,aD,by rw[aI,ag],?_⟩⟩ ?_ ?_
 ·simp only[e4,fa,r1,aT,G,pb];omega
 ·simp
 ·simpa using an
 ·rw[pb];exact aU
 ·intro d M
  rcases List.mem_or_eq_of_mem_set M with M|rfl
  ·exact Y d M
  refine⟨aN,λy hy=>?_⟩
  have hy:y∈setAt cs off x.cells:=hy
  unfold setAt at hy
  rcases h5.1 hy with hy|hy
  ·rcases h5.1 hy with hy|hy
   ·exact(Y _ (dn O)).2 y (n4 hy)
   exact Z y hy
  exact(Y _ (dn O)).2 y (s5 hy)
 intro j u y B hy
 rw[C2 els k _ U aj]at hy
 have hy:((flat els).take (k*size)++(cs.take off++x.cells++cs.drop (off+x.cells.length))++(flat els).drop (k*size+size))[j]?=some y:=by
  simpa [D.cells,setAt]using hy
 rw[show cs=(D.agg cs).cells from rfl,T7 U O aK]at hy
 rw[sm]at B
 rw[<-aa]at hy
 have aY:(flat els).length=els.length*size:=gQ els U
 rw[j2,hK]at B hy
 have l1:(xs.take (k*size+off)).length=k*size+off:=by rw[fa];omega
 have aV:((flat els).take (k*size+off)).length=k*size+off:=by rw[fa];omega
 rw[l1]at B;rw[aV]at hy
 by_cases ad:j<k*size+off
 ·rw[if_pos ad]at B hy
  rw[hg,if_pos ad]at B hy
  exact av j u y B hy
 rw[if_neg ad]at B hy
 rw[hK]at B hy
 rw[G]at B;rw[<-aa]at hy
 by_cases ai:j-(k*size+off)<F
 ·rw[if_pos ai]at B hy
  exact ax _ u y (by simpa using B) hy
 rw[if_neg ai]at B hy
 rw[k4]at B hy
 exact av _ u y B hy
end
end Go.ag
namespace Go.ag
open Go Go.RowKit
variable [bd]
def Cells(I:av)(vs:List Value)(ds:List D):Prop:=vs.length=ds.length/\(∀d∈ds,d.one=true)/\∀(i:Nat) v d,vs[i]?=some v->ds[i]?=some d->Rd I v d
def nw(I:av)(m:Nat->Value)(L:List AO)(vs:List Value)(ts:List T):Prop:=vs.length=ts.length/\(∀v∈vs,v.oneCell'=true)/\∀(i:Nat) v t,vs[i]?=some v->ts[i]?=some t->ar I m L v t
theorem nw.set{I:av}{m:Nat->Value}{L:List AO}{vs xs:List Value}{ds ys:List T}{off:Nat}(h:nw I m L vs ds)(k:nw I m L xs ys)(Z:off+ys.length<=ds.length) :
  nw I m L (vs.take off++xs++vs.drop (off+xs.length)) (setAt ds off ys):=by
 obtain⟨Y,B,F⟩:=h
 obtain⟨M,N,O⟩:=k
 refine⟨by simp[setAt];omega,λd hd=>?_,λi v d j hd=>?_⟩
 ·simp only[h5]at hd
  rcases hd with (hd|hd)|hd
  ·exact B d (n4 hd)
  ·exact N d hd
  exact B d (s5 hd)
 have l1:(vs.take off).length=off:=by simp;omega
 have U:(ds.take off).length=off:=by simp;omega
 rw[j2,hK,l1]at j
 rw[setAt,j2,hK,U]at hd
 by_cases hi:i<off
 ·rw[if_pos hi,hg,if_pos hi]at j hd
  exact F i v d j hd
 rw[if_neg hi,hK]at j hd
 rw[M]at j
 by_cases G:i-off<ys.length
 ·rw[if_pos G]at j hd;exact O _ v d j hd
 rw[if_neg G,k4]at j hd;exact F _ v d j hd
section
variable {P:Program}{V:Env}{w0 w:World}{I0 I:av}{m:Nat->Value}{l L:List AO}{nid:Nat}{o:Oper}{ρ:Operand->Value}{ρT:Operand->T}
def Ya{v:Value}{d:D}(h:Rd I v d)(j:d.cells.all D.one=true):Cells I v.cells.toList d.cells:=by
 have ht:∀ds,d ≠ .aJ ds:=λds e=>by subst e;simp[D.cells,D.one]at j
 obtain⟨F,G,M⟩:=h.cells ht
 exact⟨by simpa using F,G,λi u x k B=>M i u x (by simpa using k) B⟩
theorem fj(G:Nat->Option (Nat×Nat)):∀(parts:List (Nat×Operand))(cells:Array Value)(ds j:List T),nw I m L cells.toList ds->(∀p∈parts,ar I m L (ρ p.2) (ρT p.2)) ->
  kM G ds (parts.map λp=>(p.1,ρT p.2))=some j->∃F,Instr.fill G cells (parts.map λp=>(p.1,ρ p.2))=some F/\nw I m L F.toList j
 | [],cells,ds,j,B,_,h=>by
  simp[kM]at h;subst h
  exact⟨cells,rfl,B⟩
 |p::parts,cells,ds,j,B,Y,h=>by
  simp only[fv,kM]at h
  cases N:G p.1 with
  |none=>simp[N]at h
  |some al=>
    obtain⟨off,size⟩:=al
    simp only[N]at h
    split at h
    ·rename_i ah
     obtain⟨Z,aa,ab⟩:=Ij (Y p (by simp)) ah.2.2
     have U:nw I m L (ρ p.2).cells.toList (bm (ρT p.2)):=⟨Z,aa,ab⟩
     have ak:(ρ p.2).cells.size=size:=by have:=U.1;simp at this;omega
     have ao:off+(ρ p.2).cells.size<=cells.size:=by have:=B.1;simp at this;omega
     obtain⟨an,ad⟩:=Great.foldl_set off (ρ p.2).cells.toList 0 cells
     generalize af:((ρ p.2).cells.toList.zipIdx 0).foldl (λcs(x:Value×Nat)=>cs.setIfInBounds (off+x.2) x.1) cells=cs at *
     have ai:cs.toList=cells.toList.take off++(ρ p.2).cells.toList++cells.toList.drop (off+(ρ p.2).cells.toList.length):=by
      apply ie
      intro k
      have:=ad k
      rw[kd,this]
      have l1:(cells.toList.take off).length=off:=by simp;omega
      rw[j2,hK,l1,hK]
      simp only[Nat.add_zero,Array.length_toList]
      by_cases M:k<off
      ·rw[if_neg (by omega),if_pos M,hg,if_pos M];simp
      rw[if_neg M]
      by_cases O:k-off<(ρ p.2).cells.size
      ·rw[if_pos (by omega),if_pos O]
      rw[if_neg (by omega),if_neg O,k4]
      rw[show off+(ρ p.2).cells.size+(k-off-(ρ p.2).cells.size)=k by omega];simp
     obtain⟨F,ag,ae⟩:=fj G parts cs (setAt ds off (bm (ρT p.2))) j (by rw[ai];exact B.set U (by have:=B.1;simp at this;omega)) (λq aj=>Y q (by simp[aj])) h
     refine⟨F,?_,ae⟩
     simp only[fv]
     unfold Instr.fill
     simp only[N]
     rw[if_neg (by simp[ak];omega),<-ag]
     congr 1
     rw[<-af,<-abc,Array.toList_zipIdx]
    cases h
theorem RO(N:bZ P V.E){t:TypeId}{sz ag:Nat}{z:List D}{ds:List T}{fs:List (Nat×TypeId)}{parts:Array (Nat×Operand)}(af:V.E t=some ⟨sz,ag,z,.struct fs⟩)(aw:∀p∈parts.toList,ar I m L (ρ p.2) (ρT p.2))(ao:kM (rH V.E fs) (z.map ij) (parts.toList.map λp=>(p.1,ρT p.2))=some ds)(ak:∀f∈fs,(V.E f.2).isSome=true) :
  ∃u,(Instr.build t (parts.map λ(i,x)=>(i,ρ x))).run P w = .ok u w/\ar I m L u (fP true ds):=by
 obtain⟨ah,ax,rfl⟩:=GL N af
 obtain⟨x,Z,ai,aA,aB,aj,aa,aC,aD,aE⟩:=eI (N t _ af)
 have an:nw I m L Z.cells.toList (z.map ij):=by
  obtain⟨F,Y,az⟩:=oO I _ _ aa
  have F:Z.cells.toList.length=z.length:=F
  refine⟨by simpa using F,λv B=>?_,λi v t B ht=>?_⟩
  ·obtain⟨j,au,rfl⟩:=hA.1 B
   have ad:j<z.length:=by omega
   exact(az j _ _ (c4 au) (c4 ad)).one (Y _ (hT ad))
  rw[e0]at ht
  cases U:z[i]? with
  |none=>simp[U]at ht
  |some d=>simp[U]at ht;subst ht;exact G8 (xr aa B U)
 obtain⟨G,aq,O⟩:=fj (ρ:=ρ) (ρT:=ρT) (m:=m) (L:=L) (rH V.E _) parts.toList Z.cells _ ds an aw ao
 have av:∀k:List Field,(∀f∈k.map (λf=>(f.offset,f.type)),(V.E f.2).isSome=true)->k.mapM (λf=>(P.info? f.type).map λi=>(f.offset,i.size))=some (k.map λf=>(f.offset,bw V.E f.type)):=by
  intro k ab
  induction k with
  |nil=>rfl
  |cons f k ay=>
   obtain⟨i,hi⟩:=k5.1 (ab (f.offset,f.type) (by simp))
   obtain⟨aF,_,F,Y,_⟩:=eI (N _ _ hi)
   have M:(P.info? f.type).map (λi=>(f.offset,i.size))=some (f.offset,bw V.E f.type):=by
    simp only at hi
    simp[F,Y,bw,hi]
   simp only[mo,M,ay (λq ae=>ab q (by simp at ae⊢;exact .inr ae)),fv]
   rfl
 have al:P.built t (parts.map λ(i,x)=>(i,ρ x)).toList=some G:=by
  unfold Program.built
  simp only[ai,ax,aj,av ah.toList ak]
  rw[<-aq]
  have M:(parts.map λ(i,x)=>(i,ρ x)).toList=parts.toList.map λp=>(p.1,ρ p.2):=by simp
  rw[M]
  congr 1
  funext i
  simp only[rH,F0,e0,Option.map_map]
  rfl
 refine⟨_,run_build w t _ _ al,?_⟩
 have:=Eo (I:=I) (m:=m) (L:=L) (i:=⟨G.size,0,[],.struct []⟩) (vs:=G.toList) (ts:=ds) O.1 (by simp) (by simp[TD.agg]) (λj v t B ht=>⟨O.2.2 j v t B ht,O.2.1 v (dn B)⟩)
 simpa [TD.agg]using this
def aE.known(F:aE w0 I0 w I m L)(e:TypeId)(cs:Array Value)(size:Nat)(ds:List D)(n:Nat)(U:ds.length=n)(aa:∀d∈ds,d.cells.length=size/\∀x∈d.cells,x.one=true)(ak:cs.size=n*size)(af:n<=maxLen)(ag:∀(j:Nat) x y,cs[j]?=some x->(flat ds)[j]?=some y->Rd I x y) :
  ∃J,Le I m L J m L/\aE w0 I0 (w.alloc (.cells cs e)) J m L/\Rd J (.slice (some ⟨w.heap.size,0,none⟩) n n) (.slice size ds):=by
 have Y:=F.sat.dJ (eb w.heap.size)
 let J:=I.dr w.heap.size cs.toList
 have O:I.le J:=⟨λb o v B=>by
  have G:b≠w.heap.size:=by rintro rfl;rw[Y.1 o]at B;cases B
  simp[J,av.dr,G,B],λ_ _ h=>h,λ_ h=>h⟩
 have Z:∀b,b≠w.heap.size->J.cell b=I.cell b:=λb G=>by funext o;simp[J,av.dr,G]
 have ah:c8 (w.alloc (.cells cs e)) J:=⟨λb o v B=>by
  by_cases G:b=w.heap.size
  ·subst G
   simp only[J,av.dr,hQ]at B
   rw[World.cell?_alloc_new]
   cases M:cs[o]? with
   |none=>simp[M,Y.1 o]at B
   |some x=>simpa [M]using B
  ·rw[Z b G]at B
   rw[vb w _ _ (F.sat.lt B)];exact F.sat.cell b o v B,λb ab B=>by
  have ad:=F.sat.mp b ab B
  exact dL.to (Below.heap_alloc w _ b (F.sat.mR B)) ad,λb N=>(Below.heap_alloc w _ b (F.sat.j7 N)).trans (F.sat.df b N),λg d h=>(F.sat.c7 g d h).mono O⟩
 obtain⟨ai,aj⟩:=F.call (dz.alloc (dz.refl _ _) (eb _) _) (.of O (λb G=>Z b (by omega)) (λ_ _=>rfl)) ah
 refine⟨J,aj,ai,.slice _ 0 n n size ds (λk=>(cs[k]?).getD undef) U (eb _) af aa (λk ae=>?_) (λk x M=>?_)⟩
 ·have:cs[k]?=some (cs[k]'(by omega)):=e8 (by omega)
  simp[J,av.dr,this]
 have ae:k<n*size:=by rw[<-U,<-gQ ds (λd N=>(aa d N).1)];exact(da.1 M).1
 have:cs[k]?=some (cs[k]'(by omega)):=e8 (by omega)
 rw[this];exact(ag k _ x this M).mono O
theorem KF:∀(ps:List (Nat×Operand))(ds:List D),(∀p∈ps,ar I m L (ρ p.2) (ρT p.2))->ps.mapM (λp=>gp (ρT p.2))=some ds->ps.length=ds.length/\∀(i:Nat) p d,ps[i]?=some p->ds[i]?=some d->Rd I (ρ p.2) d
 | [],ds,_,h=>by simp at h;subst h;simp
 |p::ps,ds,B,h=>by
  simp only[mo,Option.bind_eq_bind,la,Option.pure_def,c5]at h
  obtain⟨x,M,xs,N,rfl⟩:=h
  obtain⟨F,G⟩:=KF ps xs (λq j=>B q (by simp[j])) N
  refine⟨by simp[F],λi q d j k=>?_⟩
  rcases i with _|i
  ·simp at j k;subst j;subst k;exact AW (B p (by simp)) M
  simp at j k;exact G i q d j k
theorem Ib(Z:bZ P V.E)(aw:aE w0 I0 w I m L){t e:TypeId}{sz al:Nat}{z:List D}{len:Nat}{parts:Array (Nat×Operand)}{ds:List D}(aB:V.E t=some ⟨sz,al,z,.slice e⟩)(aS:parts.toList.length=ds.length)(aI:∀(i:Nat) p d,parts.toList[i]?=some p->ds[i]?=some d->Rd I (ρ p.2) d)(ae:(V.E e).isSome=true/\0<bw V.E e)(au:len≠0)(an:parts.toList.map (·.1)=List.range len/\len*bw V.E e<=16777216/\ds.all (λd=>d.cells.length == bw V.E e&&d.cells.all D.one)=true) :
  ∃w' J,(Instr.buildSlice t len (parts.map λ(i,x)=>(i,ρ x))).run P w = .ok (.slice (some ⟨w.heap.size,0,none⟩) len len) w'/\Le I m L J m L/\aE w0 I0 w' J m L/\Rd J (.slice (some ⟨w.heap.size,0,none⟩) len len) (.slice (bw V.E e) ds):=by
 have F:=lv Z aB
 obtain⟨aa,ao,ab⟩:=an
 obtain⟨i,hi⟩:=k5.1 ae.1
 obtain⟨x,Y,aG,U,aN,aH,aO,aP,aQ,aR⟩:=eI (Z e i hi)
 have aj:bw V.E e=i.size:=by simp[bw,hi]
 rw[aj]at ao ab⊢
 have M:0<i.size:=by rw[<-aj];exact ae.2
 have O:parts.toList.length=len:=by have:=ea List.length aa;simpa using this
 have aq:ds.length=len:=by omega
 have G:∀d∈ds,d.cells.length=i.size/\∀y∈d.cells,y.one=true:=λd k=>by
  have:=dT.1 ab d k
  simp only[dd,s4,dT]at this
  exact this
 have ad:∀(j:Nat) p d,parts.toList[j]?=some p->ds[j]?=some d->Cells I (ρ p.2).cells.toList d.cells:=λj p d B k=>
  Ya (aI j p d B k) (dT.2 (G d (dn k)).2)
 have aD:∀v∈parts.toList.map (λp=>ρ p.2),v.cells.size=i.size:=by
  intro v aC
  obtain⟨p,B,rfl⟩:=hz.1 aC
  obtain⟨j,N,rfl⟩:=hA.1 B
  have ag:j<ds.length:=by omega
  have:=(ad j _ _ (c4 N) (c4 ag)).1
  have aL:=(G _ (hT ag)).1
  rw[Array.length_toList]at this;omega
 obtain⟨r,ar,az,ay⟩:=Great.fill_dense M (parts.toList.map λp=>ρ p.2) 0 ((Array.range (len*i.size)).map (Y.cells[· % Y.cells.size]!)) aD (by simp[O])
 have aF:(parts.map λ(i,x)=>(i,ρ x)).toList=((parts.toList.map λp=>ρ p.2).zipIdx 0).map λx=>(x.2,x.1):=by
  apply ie
  intro j
  simp only[Array.toList_map,e0,List.getElem?_zipIdx,ia,Option.map_map]
  cases B:parts.toList[j]? with
  |none=>simp
  |some p=>
   have N:j<len:=by rw[<-O];exact(da.1 B).1
   have:(parts.toList.map (·.1))[j]?=some p.1:=by rw[e0,B];rfl
   rw[aa,kz N]at this
   injection this with this
   simp[this]
 have aA:=run_buildSlice (P:=P) w t e len (parts.map λ(i,x)=>(i,ρ x)) r x Y F aG aH (by rw[U];omega) (by rw[U];have:=abu (Nat.pos_of_ne_zero au) M;omega) (by rw[aF,U];exact ar)
 have ai:r.size=len*i.size:=by rw[az];simp
 obtain⟨J,aK,aJ,av⟩:=aw.known e r i.size ds len aq G ai (by unfold maxLen;have:len<=len*i.size:=Nat.le_mul_of_pos_right _ M;omega) (λj u y F ak=>by
  have ah:j<len*i.size:=by rw[<-ai];exact(e7.1 F).1
  rw[ay j,if_pos (by simp[O];exact ah)]at F
  simp only[Nat.sub_zero,e0]at F
  have aM:j/i.size<len:=Nat.div_lt_of_lt_mul (by rw[oo];exact ah)
  have ax:j%i.size<i.size:=rv _ M
  have B:parts.toList[j/i.size]?=some (parts.toList[j/i.size]'(by omega)):=c4 (by omega)
  have k:ds[j/i.size]?=some (ds[j/i.size]'(by omega)):=c4 (by omega)
  rw[B]at F
  have af:=flat_get ds (λd k=>(G d k).1) (j/i.size) (j%i.size) _ k ax
  rw[oo,vx]at af
  rw[af]at ak
  exact(ad _ _ _ B k).2.2 (j%i.size) u y (by simpa using F) ak)
 exact⟨_,J,aA,aK,aJ,av⟩
theorem aE.AT(F:aE w0 I0 w I m l){w':World}{e size:Nat}{els:List D}{v:Value}{row:Option Nat}{lo:List AO}(aN:lo.length=l.length)(Y:∀(k:Nat) a,lo[k]?=some a->a = .dead\/l[k]?=some a)(aU:∀(k:Nat) a,a.isVar=true->l[k]?=some a->lo[k]?=some a)(N:w.grownBy w' row)(aL:w.drawn<=w'.drawn)(af:∀b,row=some b->w0.heap.size<=b/\I.dJ b/\∀k,alive lo k=true->own (m k)≠some b)(aO:∀b,row=some b->¬I.df b)(an:∀b,own v=some b->w0.heap.size<=b/\I.dJ b/\∀k,alive lo k=true->own (m k)≠some b){xs:List Value}(aR:w'.ownsRow w0.heap.size e size v els.length xs)(aS:∀d∈els,d.cells.length=size/\∀x∈d.cells,x.one=true)(aQ:∀(j:Nat) x y,xs[j]?=some x->(flat els)[j]?=some y->Rd I x y)(aT:∃A n c,v = .slice A n c) :
  Le I m l I (aK m l.length v) (lo++[.row e size els])/\aE w0 I0 w' I (aK m l.length v) (lo++[.row e size els])/\ar I (aK m l.length v) (lo++[.row e size els]) v (.row l.length):=by
 have ag:∀k,k<l.length->(lo++[AO.row e size els])[k]?=lo[k]?:=λk ay=>e3 (by omega)
 have aM:(lo++[AO.row e size els])[l.length]?=some (.row e size els):=by rw[<-aN];simp
 have aA:Le I m l I (aK m l.length v) (lo++[.row e size els]):=by
  refine⟨.refl I,by simp;omega,λid aa au=>⟨?_,bO m v (by omega)⟩,λid aa ae=>⟨?_,bO m v (by omega)⟩,λid aX s' els' aa hh=>?_⟩
  ·unfold isVar at au⊢;rw[ag id aa]
   cases B:l[id]? with
   |none=>simp[B]at au
   |some o=>
    have aB:o.isVar=true:=by simpa [B]using au
    rw[aU id o aB B];exact aB
  ·unfold isRow at ae⊢;rw[ag id aa]at ae
   cases B:lo[id]? with
   |none=>simp[B]at ae
   |some o=>
    rcases Y id o B with rfl|h
    ·simp[B,AO.isRow]at ae
    rw[h];rw[B]at ae;exact ae
  rw[ag id aa]at hh
  rcases hh with hh|hh
  ·rcases Y id _ hh with h|h
   ·cases h
   exact⟨els',.inl h⟩
  rcases Y id _ hh with h|h
  ·cases h
  exact⟨els',.inr h⟩
 have aJ:∀k a,lo[k]?=some a->a ≠ .dead->∀b,own (m k)=some b->w'.heap[b]?=w.heap[b]?:=by
  intro k a ai G b Z
  have aI:l[k]?=some a:=(Y k a ai).resolve_left G
  refine N.block b ((F.obj k a aI).lt G Z).1 (λM=>?_)
  exact(af b M.symm).2.2 k (bD.2 ⟨a,ai,G⟩) Z
 refine⟨aA,⟨F.below.trans ⟨N.os,N.tape,N.output,N.size,λk ay=>N.block k (by have:=F.below.size;omega) (λM=>by have:=(af k M.symm).1;omega),λ_=>aL⟩,⟨λb o u U=>?_,λb aH U=>?_,λb G=>(N.block b (F.sat.j7 G) (λM=>aO b M.symm G)).trans (F.sat.df b G),F.sat.c7⟩,F.ext,λid o B=>?_,λi j b ah hi ax ab ad=>?_⟩,?_⟩
 ·have ao:some b≠row:=λM=>by rw[(af b M.symm).2.1.1 o]at U;cases U
  exact(na (w:=w) (a:=⟨b,o,none⟩) (N.block b (F.sat.lt U) ao)).trans (F.sat.cell b o u U)
 ·have ao:some b≠row:=λM=>by rw[(af b M.symm).2.1.2]at U;cases U
  have hh:=F.sat.mp b aH U
  exact dL.to (N.block b (F.sat.mR U) ao) hh
 ·by_cases aa:id<l.length
  ·rw[ag id aa]at B;rw[bO m v (by omega)]
   by_cases G:o = .dead
   ·subst G;trivial
   exact(F.obj id o ((Y id o B).resolve_left G)).cC aA (aJ id o B G) (λ_ _=>⟨rfl,rfl⟩) ⟨λb u aq _=>⟨N.block b (F.sat.lt aq) (λM=>by rw[(af b M.symm).2.1.1 0]at aq;cases aq),rfl,rfl⟩,λq b aP Z=>(s9 aP).elim (λh=>.inl ⟨q,(by
    have O:=h.2;unfold cy at O⊢
    cases ak:lo[q]? with
    |none=>simp[ak]at O
    |some a=>
     rcases Y q a ak with rfl|h'
     ·simp[ak,AO.cy]at O
     rw[ak]at O;rw[h'];exact O),by rw[bO m v (by have:=h.1;omega)]at Z;exact Z⟩) λh=>by cases h.2⟩
  have:id=l.length:=by
   have:=(da.1 B).1;simp at this;omega
  subst this
  rw[aM]at B;injection B with B;subst B
  rw[dy]
  exact⟨xs,aR,aS,aQ,λb Z=>(an b Z).2.1⟩
 ·have aj:∀k,k≠l.length->alive (lo++[AO.row e size els]) k=true->alive lo k=true/\k<l.length:=by
   intro k ay ai
   obtain⟨o,B,G⟩:=bD.1 ai
   have az:k<l.length:=by have:=(da.1 B).1;simp at this;omega
   rw[ag k az]at B
   exact⟨bD.2 ⟨o,B,G⟩,az⟩
  by_cases al:i=l.length
  ·subst al;rw[dy]at ab;rw[bO m v (hW ah)]at ad
   exact(an b ab).2.2 j (aj j (hW ah) ax).1 ad
  by_cases O:j=l.length
  ·subst O;rw[dy]at ad;rw[bO m v ah]at ab
   exact(an b ad).2.2 i (aj i ah hi).1 ab
  rw[bO m v al]at ab;rw[bO m v O]at ad
  have aF:=(aj i al hi).1
  have aG:=(aj j O ax).1
  obtain⟨aC,aV,av⟩:=bD.1 aF
  obtain⟨aD,aW,aw⟩:=bD.1 aG
  exact F.sep i j b ah (bD.2 ⟨aC,(Y i aC aV).resolve_left av,av⟩) (bD.2 ⟨aD,(Y j aD aW).resolve_left aw,aw⟩) ab ad
 obtain⟨A,n,c,rfl⟩:=aT
 exact .row A n c _ (by simp;omega) (λ_=>dy m _ _)
theorem aE.Xp(M:aE w0 I0 w I m l){w':World}{e size:Nat}{els:List D}{v:Value}{row:Option Nat}{lo:List AO}(aD:lo.length=l.length)(U:∀(k:Nat) a,lo[k]?=some a->a = .dead\/l[k]?=some a)(aU:∀(k:Nat) a,a.isVar=true->l[k]?=some a->lo[k]?=some a)(Y:w.grownBy w' row)(aP:w.drawn<=w'.drawn)(ay:∀b,row=some b->w0.heap.size<=b/\∀k,alive lo k=true->own (m k)≠some b)(aG:∀b,row=some b\/own v=some b->I.cell b 0=none\/∃q,cy l q=true/\own (m q)=some b){J:av}(ah:I.le J)(al:∀b,own v≠some b->J.cell b=I.cell b/\J.mp b=I.mp b)(aS:c8 w' J)(ae:∀b,own v=some b->w0.heap.size<=b/\∀k,alive lo k=true->own (m k)≠some b)(aR:dH w0.heap.size w' J (aK m l.length v) (lo++[.bg e size els]) v (.bg e size els))(aT:∃A n c,v = .slice A n c) :
  Le I m l J (aK m l.length v) (lo++[.bg e size els])/\aE w0 I0 w' J (aK m l.length v) (lo++[.bg e size els])/\ar J (aK m l.length v) (lo++[.bg e size els]) v (.row l.length):=by
 have af:∀k,k<l.length->(lo++[AO.bg e size els])[k]?=lo[k]?:=λk aA=>e3 (by omega)
 have aQ:(lo++[AO.bg e size els])[l.length]?=some (.bg e size els):=by rw[<-aD];simp
 have aC:Le I m l J (aK m l.length v) (lo++[.bg e size els]):=by
  refine⟨ah,by simp;omega,λid Z au=>⟨?_,bO m v (by omega)⟩,λid Z ad=>⟨?_,bO m v (by omega)⟩,λid a1 s' els' Z hh=>?_⟩
  ·unfold isVar at au⊢;rw[af id Z]
   cases B:l[id]? with
   |none=>simp[B]at au
   |some o=>
    have aH:o.isVar=true:=by simpa [B]using au
    rw[aU id o aH B];exact aH
  ·unfold isRow at ad⊢;rw[af id Z]at ad
   cases B:lo[id]? with
   |none=>simp[B]at ad
   |some o=>
    rcases U id o B with rfl|h
    ·simp[B,AO.isRow]at ad
    rw[h];rw[B]at ad;exact ad
  rw[af id Z]at hh
  rcases hh with hh|hh
  ·rcases U id _ hh with h|h
   ·cases h
   exact⟨els',.inl h⟩
  rcases U id _ hh with h|h
  ·cases h
  exact⟨els',.inr h⟩
 have aO:∀k a,lo[k]?=some a->a ≠ .dead->∀b,own (m k)=some b->w'.heap[b]?=w.heap[b]?:=by
  intro k a ai N b F
  have aN:l[k]?=some a:=(U k a ai).resolve_left N
  refine Y.block b ((M.obj k a aN).lt N F).1 (λG=>?_)
  exact(ay b G.symm).2 k (bD.2 ⟨a,ai,N⟩) F
 refine⟨aC,⟨M.below.trans ⟨Y.os,Y.tape,Y.output,Y.size,λk aA=>Y.block k (by have:=M.below.size;omega) (λG=>by have:=(ay k G.symm).1;omega),λ_=>aP⟩,aS,⟨λ_ _ _ x=>ah.cell _ _ _ (M.ext.lc _ _ _ x),λ_ _ x=>ah.mp _ _ (M.ext.lm _ _ x),λb F x=>ah.df b (M.ext.ld b F x),λb F=>?_,λb F=>?_⟩,λid o B=>?_,λi j b ag hi az aa ab=>?_⟩,?_⟩
 ·exact(al b (λG=>by have:=(ae b G).1;omega)).1.trans (M.ext.cell b F)
 ·exact(al b (λG=>by have:=(ae b G).1;omega)).2.trans (M.ext.mp b F)
 ·by_cases Z:id<l.length
  ·rw[af id Z]at B;rw[bO m v (by omega)]
   by_cases N:o = .dead
   ·subst N;trivial
   exact(M.obj id o ((U id o B).resolve_left N)).cC aC (aO id o B N) (λb F=>al b (λG=>(ae b G).2 id (bD.2 ⟨o,B,N⟩) F)) ⟨λb u aq ao=>(by
    have aF:∀{x:Prop},(row=some b\/own v=some b)->x:=λh=>((aG b h).elim (λh=>by rw[h]at aq;cases aq) λh=>absurd h.choose_spec.2 (ao _ h.choose_spec.1))
    exact⟨Y.block b (M.sat.lt aq) (λG=>aF (.inl G.symm)),al b (λG=>aF (.inr G))⟩),λq b ao F=>(s9 ao).elim (λh=>.inl ⟨q,(by
    have O:=h.2;unfold cy at O⊢
    cases ak:lo[q]? with
    |none=>simp[ak]at O
    |some a=>
     rcases U q a ak with rfl|h'
     ·simp[ak,AO.cy]at O
     rw[ak]at O;rw[h'];exact O),by rw[bO m v (by have:=h.1;omega)]at F;exact F⟩) λh=>by
    rw[h.1,aD,dy]at F
    exact(aG b (.inr F)).elim .inr λ⟨aX,aV,aW⟩=>.inl ⟨aX,aV,aW⟩⟩
  have:id=l.length:=by
   have:=(da.1 B).1;simp at this;omega
  subst this
  rw[aQ]at B;injection B with B;subst B
  rw[dy]
  exact aR
 ·have aj:∀k,k≠l.length->alive (lo++[AO.bg e size els]) k=true->alive lo k=true/\k<l.length:=by
   intro k aA ai
   obtain⟨o,B,N⟩:=bD.1 ai
   have aB:k<l.length:=by have:=(da.1 B).1;simp at this;omega
   rw[af k aB]at B
   exact⟨bD.2 ⟨o,B,N⟩,aB⟩
  by_cases an:i=l.length
  ·subst an;rw[dy]at aa;rw[bO m v (hW ag)]at ab
   exact(ae b aa).2 j (aj j (hW ag) az).1 ab
  by_cases O:j=l.length
  ·subst O;rw[dy]at ab;rw[bO m v ag]at aa
   exact(ae b ab).2 i (aj i ag hi).1 aa
  rw[bO m v an]at aa;rw[bO m v O]at ab
  have aL:=(aj i an hi).1
  have aM:=(aj j O az).1
  obtain⟨aI,aY,aw⟩:=bD.1 aL
  obtain⟨aJ,aZ,ax⟩:=bD.1 aM
  exact M.sep i j b ag (bD.2 ⟨aI,(U i aI aY).resolve_left aw,aw⟩) (bD.2 ⟨aJ,(U j aJ aZ).resolve_left ax,ax⟩) aa ab
 obtain⟨A,n,c,rfl⟩:=aT
 exact .row A n c _ (by simp;omega) (λ_=>dy m _ _)
end
end Go.ag
