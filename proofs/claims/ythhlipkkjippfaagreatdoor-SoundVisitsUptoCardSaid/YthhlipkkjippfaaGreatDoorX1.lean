import Derived.WalkKit
import Derived.WalkSpells
import Derived.WalkLawsBesides
import Derived.Maps.AppendAt
import Derived.Deep.AppendLies
import Derived.Deep.MidRow
import Derived.Deep.Quiet
import Derived.Great.BuildSlice
import Derived.OrdersIn
import Derived.TacticsIn
import Derived.RangeFuncCalls
import Derived.Sort.LoopGhostIn
set_option linter.all false
namespace Go
def c3:=@List.getElem?_eq_getElem
def c4:=@Option.some.injEq
def c5:=@List.getElem?_eq_some_iff
def da:=@decide_eq_true
def db:=@Bool.and_eq_true
def dd:=@decide_eq_false
def dk:=@List.mem_of_getElem?
def dn:=@congrArg
def dT:=@List.all_eq_true
def ea:=@decide_eq_true_eq
def eb:=@Nat.le_refl
def er:=@Nat.eq_of_beq_eq_true
def et:=@List.getElem?_map
def e0:=@Prod.mk.injEq
def e1:=@List.getElem?_append_left
def e3:=@List.length_append
def e4:=@List.getElem?_set
def e5:=@Option.map_eq_some_iff
def e6:=@Array.getElem?_eq_some_iff
def e7:=@Array.getElem?_eq_getElem
def e8:=@List.length_take
def fa:=@List.map_cons
def fb:=@List.mem_cons
def fv:=@Sem.run_bind
def gg:=@Array.getD_eq_getD_getElem?
def gj:=@List.mem_map
def gl:=@List.getElem?_take
def gL:=@Bool.not_eq_true'
def gT:=@List.mem_iff_getElem
def gW:=@List.mem_of_find?_eq_some
def hf:=@Classical.byContradiction
def hg:=@Nat.le_of_ble_eq_true
def hz:=@List.getElem?_append_right
def hA:=@of_decide_eq_true
def hB:=@List.getElem?_append
def hC:=@Bool.eq_iff_iff
def hD:=@run_underlying
def hE:=@List.map_congr_left
def hF:=@List.getElem?_eq_none
def hG:=@List.length_map
def hI:=@List.mem_filter
def hJ:=@Nat.le_trans
def hK:=@if_true
def hL:=@decide_eq_false_iff_not
def hM:=@List.flatMap_cons
def hN:=@List.mem_range
def hP:=@List.mem_append
def hQ:=@Bool.false_eq_true
def hR:=@Bool.or_eq_true
def hS:=@Ne.symm
def hT:=@List.drop_eq_getElem_cons
def hU:=@List.append_assoc
def hV:=@Nat.zero_add
def hW:=@List.ext_getElem?
def hX:=@Array.mem_toList_iff
def h5:=@List.any_eq_true
def h6:=@List.getElem_mem
def h8:=@if_false
def h9:=@List.nodup_cons
def ia:=@Nat.beq_refl
def ib:=@not_true_eq_false
def ie:=@List.getElem?_range
def ih:=@MapKept.run_getObj_map
def ik:=@Array.getElem?_append_left
def iu:=@List.contains_iff_mem
def iv:=@List.filter_eq_nil_iff
def jb:=@List.mem_flatMap
def j0:=@decide_eq_decide
def j1:=@List.eq_nil_of_length_eq_zero
def j2:=@Nat.zero_le
def j3:=@Array.getElem?_toList
def j4:=@List.map_map
def j5:=@List.find?_some
def ka:=@Nat.mul_le_mul_right
def kb:=@List.getElem?_drop
def kd:=@Option.isSome_iff_exists
def kz:=@beq_false
def kA:=@List.length_filter_le
def kB:=@Array.toList_inj
def k0:=@List.filter_cons
def k3:=@Option.bind_eq_some_iff
def k4:=@Bool.or_eq_false_iff
def k5:=@List.take_of_length_le
def k6:=@List.drop_eq_nil_of_le
def k7:=@List.any_eq_false
def k8:=@List.mapM_cons
def la:=@World.cell?_of_block
def lb:=@MapKept.run_setObj_map
def lA:=@List.filter_sublist
def lB:=@Nat.lt_or_ge
def l2:=@Classical.choose_spec
def mb:=@List.append_nil
def mo:=@and_assoc
def mv:=@List.mem_singleton
def na:=@List.mem_of_mem_take
def nb:=@List.mem_cons_of_mem
def nh:=@Bool.not_eq_true
def nn:=@Nat.mul_comm
def n2:=@Bool.true_and
def n3:=@Int.tmod_eq_emod_of_nonneg
def n4:=@Code.wpIn_mono
def om:=@List.pairwise_map
def oo:=@MapKept.run_findKey
def o0:=@List.filter_eq_self
def o1:=@Nat.min_eq_left
def o2:=@List.length_set
def o3:=@List.cons.injEq
def pa:=@Option.some.inj
def pb:=@List.pairwise_iff_getElem
def p0:=@Array.getElem?_modify
def p1:=@Nat.lt_of_lt_of_le
def p2:=@setRow_other
def p3:=@MapKept.heap_set
def p4:=@List.findIdx?_cons
def p5:=@List.find?_eq_none
def p6:=@Bool.not_true
def qd:=@Nat.add_mul
def qn:=@Bool.and_true
def qs:=@MapKept.run_checkKey
def q0:=@List.mem_append_left
def q1:=@Array.getElem?_append_right
def q2:=@World.grownBy_alloc
def q3:=@List.mem_filterMap
def q4:=@Nat.div_lt_iff_lt_mul
def q5:=@Addr.add_mid
def q6:=@Nat.mod_lt
def q7:=@List.map_append
def q8:=@List.Pairwise.imp_of_mem
def q9:=@Bool.false_or
def ra:=@Array.getElem?_push
def rb:=@List.length_drop
def rr:=@List.drop_zero
def rv:=@Nat.lt_succ_self
def r0:=@getElem!_pos
def r1:=@Nat.div_mul_cancel
def r2:=@List.take_append_drop
def r3:=@List.length_replicate
def r4:=@Nat.add_assoc
def sa:=@Int.tdiv_eq_ediv_of_nonneg
def sb:=@List.nodup_append
def sh:=@Nat.gcd_dvd_right
def sk:=@beq_iff_eq
def sm:=@List.mem_of_mem_drop
def ss:=@Nat.le_succ
def sx:=@List.flatMap_map
def s3:=@Nat.gcd_pos_of_pos_right
def s4:=@Nat.add_sub_cancel_left
def s5:=@List.eq_nil_iff_forall_not_mem
def s6:=@Nat.eq_zero_or_pos
def ta:=@Bool.not_eq_false'
def tb:=@Nat.div_le_self
def tc:=@Int.mul_le_mul_of_nonneg_right
def td:=@List.foldl_append
def ti:=@List.drop_drop
def tl:=@run_part_plain
def tr:=@List.mem_append_right
def tt:=@List.map_set
def tv:=@bind_mono
def tx:=@Nat.coprime_div_gcd_div_gcd
def uu:=@World.cell?_alloc_lt
def u0:=@List.not_mem_nil
def u4:=@List.getElem?_of_mem
def u5:=@List.perm_ext_iff_of_nodup
def u6:=@beq_eq_false_iff_ne
def va:=@List.mergeSort_perm
def vb:=@Nat.div_add_mod
def vc:=@Array.mapM_eq_mapM_toList
def vf:=@List.getElem?_zip_eq_some
def vi:=@callsIn_wide
def vt:=@heap_alloc_new
def vx:=@Bool.false_and
def vy:=@List.take_take
def v7:=@Int.eq_ofNat_of_zero_le
def v8:=@List.length_eq_zero_iff
def w1:=@run_storeCells_at
def w2:=@run_append_own_at
def xd:=@List.length_range
def x0:=@List.Pairwise.imp
def x1:=@MapKept.stamped_modify
def x3:=@List.getElem?_eraseIdx
def y0:=@List.append_eq_nil_iff
def za:=@Int.le_refl
def zc:=@Bool.or_false
def zv:=@Nat.le_of_dvd
def zx:=@List.drop_append
def zz:=@List.drop_length
def z1:=@List.getElem?_toArray
def A1:=@Nat.ble_eq_true_of_le
def B1:=@Int.tmod_add_mul_tdiv
def Ds:=@Nat.Coprime.dvd_of_dvd_mul_left
def D1:=@Nat.succ_mul
def F0:=@MapKept.stamped_push
def F1:=@List.length_eraseIdx
def F4:=@wpIn_region_lit
def F8:=@World.alloc_heap_new
def I1:=@List.range_succ
def I3:=@List.filter_map
def J0:=@List.take_append_of_le_length
def J1:=@List.length_flatMap
def J2:=@List.dropWhile_cons
def J3:=@List.takeWhile_cons
def J4:=@Iff.rfl
def J5:=@Array.getElem?_setIfInBounds
def Kd:=@Int.gcd_pos_of_ne_zero_right
def Kn:=@Bool.and_false
def KR:=@Nat.mul_le_mul
def K1:=@setRow_heap
def K2:=@decide_true
def LB:=@Array.foldl_toList
def LL:=@List.mem_cons_self
def M0:=@of_decide_eq_false
def Qd:=@List.pairwise_cons
def Qe:=@Int.sub_add_cancel
def Qp:=@List.filter_append
def Qx:=@Int.natCast_nonneg
def T0:=@Nat.mod_two_eq_zero_or_one
def abn:=@Int.add_assoc
def abo:=@run_sliceAt_slice
def abp:=@List.filter_congr
def abq:=@Nat.add_comm
def abr:=@List.map_nil
def abt:=@true_and
def abu:=@Nat.gcd_dvd_left
def abv:=@Int.zero_add
def abw:=@List.map_flatMap
def abx:=@beq_toListBytes
def aby:=@run_equalIn_int
def abz:=@List.all_append
def abA:=@Int.natAbs_tmod
def abB:=@Int.natAbs_tdiv
def abC:=@Nat.mul_pos
end Go
namespace Go.ag
open Go Go.RowKit
inductive D where
 |bool (b:Bool)
 |int (k:IntKind) (n:Int)
 |str (s:ByteArray)
 |agg (cs:List D)
 |slice (size:Nat) (els:List D)
 |fn (f:FuncId)
 |iU
 |map (ks vs:List D)
 |dX
 |iface (t:TypeId) (d:D)
 |qa
 |aN (ds:List D)
 |aD (f:FuncId) (caps:List D)
 |box (d:D)
 deriving Inhabited
def D.cells:D->List D
 |.agg cs=>cs
 |d=>[d]
def D.one:D->Bool
 |.agg _=>false
 |.aN _=>false
 |_=>true
def flat(els:List D):List D:=els.flatMap D.cells
abbrev ME:=Array MapEntry×Nat
structure ay where
 cell:Nat->Nat->Option Value
 mp:Nat->Option ME
 df:Nat->Prop
structure ay.le(I J:ay):Prop where
 cell:∀b o v,I.cell b o=some v->J.cell b o=some v
 mp:∀b es,I.mp b=some es->J.mp b=some es
 df:∀b,I.df b->J.df b
theorem ay.le.refl(I:ay):I.le I:=⟨λ_ _ _ h=>h,λ_ _ h=>h,λ_ h=>h⟩
theorem ay.le.trans{I J K:ay}(h:I.le J)(k:J.le K):I.le K:=⟨λ_ _ _ x=>k.cell _ _ _ (h.cell _ _ _ x),λ_ _ x=>k.mp _ _ (h.mp _ _ x),λ_ x=>k.df _ (h.df _ x)⟩
inductive Rd(I:ay):Value->D->Prop
 |bool (b):Rd I (.bool b) (.bool b)
 |int (k n):Rd I (.int k n) (.int k n)
 |str (s):Rd I (.string s) (.str s)
 |agg (cs:Array Value) (ds:List D):cs.size=ds.length->(∀d∈ds,d.one=true)->(∀(i:Nat) v d,cs[i]?=some v->ds[i]?=some d->Rd I v d)->Rd I (.agg cs) (.agg ds)
 |kf (A c size):c<=maxLen->Rd I (.slice A 0 c) (.slice size [])
 |slice (b off n c size:Nat) (els:List D) (val:Nat->Value):els.length=n->n<=c->c<=maxLen->(∀d∈els,d.cells.length=size/\∀x∈d.cells,x.one=true) ->
   (∀k,k<n*size->I.cell b (off+k)=some (val k))->(∀(k:Nat) x,(flat els)[k]?=some x->Rd I (val k) x)->Rd I (.slice (some ⟨b,off,none⟩) n c) (.slice size els)
 |fn (f):Rd I (.func (.func f) #[] #[]) (.fn f)
 |iU:Rd I .nilFunc .iU
 |ub:Rd I (.map none) (.map [] [])
 |map (b:Nat) (es:ME) (ks vs:List D):I.mp b=some es->es.1.size=ks.length->es.1.size=vs.length->(∀(i:Nat)(e:MapEntry)(d:D),es.1[i]?=some e->ks[i]?=some d->Rd I e.key d)->(∀(i:Nat)(e:MapEntry)(d:D),es.1[i]?=some e->vs[i]?=some d->Rd I e.val d)->Rd I (.map (some b)) (.map ks vs)
 |dX:Rd I (.pointer none) .dX
 |iface (t v d):Rd I v d->Rd I (.iface t v) (.iface t d)
 |qa:Rd I .nilIface .qa
 |aN (vs:Array Value) (ds:List D):vs.size=ds.length->(∀(i:Nat) v d,vs[i]?=some v->ds[i]?=some d->Rd I v d)->Rd I (.tuple vs) (.aN ds)
 |aD (f) (vs:Array Value) (ds:List D):vs.size=ds.length->(∀(i:Nat) v d,vs[i]?=some v->ds[i]?=some d->Rd I v d)->Rd I (.func (.func f) #[] vs) (.aD f ds)
 |box (b:Nat) (d:D) (val:Nat->Value):(∀x∈d.cells,x.one=true)->(∀k,k<d.cells.length->I.cell b k=some (val k))->(∀(k:Nat) x,d.cells[k]?=some x->Rd I (val k) x)->Rd I (.pointer (some ⟨b,0,none⟩)) (.box d)
theorem Rd.oM{I J:ay}(O:∀b o v,I.cell b o=some v->J.cell b o=some v)(Z:∀b G,I.mp b=some G->J.mp b=some G){v:Value}{d:D}(r:Rd I v d):Rd J v d:=by
 induction r with
 |bool b=>exact .bool b
 |int k n=>exact .int k n
 |str s=>exact .str s
 |agg cs ds j F _ B=>exact .agg cs ds j F B
 |kf A c size h=>exact .kf A c size h
 |slice b off n c size els val j F M U Y _ B=>exact .slice b off n c size els val j F M U (λk N=>O _ _ _ (Y k N)) B
 |fn f=>exact .fn f
 |iU=>exact .iU
 |ub=>exact .ub
 |map b G ad vs j F M _ _ aa ab=>exact .map b G ad vs (Z _ _ j) F M aa ab
 |dX=>exact .dX
 |iface t v d _ B=>exact .iface t v d B
 |qa=>exact .qa
 |aN vs ds j _ B=>exact .aN vs ds j B
 |aD f vs ds j _ B=>exact .aD f vs ds j B
 |box b d val j F _ B=>exact .box b d val j (λk N=>O _ _ _ (F k N)) B
theorem Rd.mono{I J:ay}(h:I.le J){v:Value}{d:D}(r:Rd I v d):Rd J v d:=r.oM h.cell h.mp
def Rd.one{I:ay}{v:Value}{d:D}(h:Rd I v d)(j:d.one=true):v.oneCell'=true:=by cases h<;>simp_all [D.one,Value.oneCell']
theorem Rd.cells{I:ay}{v:Value}{d:D}(h:Rd I v d)(ht:∀ds,d ≠ .aN ds):v.cells.size=d.cells.length/\(∀x∈d.cells,x.one=true)/\∀(i:Nat) x y,v.cells[i]?=some x->d.cells[i]?=some y->Rd I x y:=by
 cases h with
 |agg cs ds B F G=>exact⟨B,F,G⟩
 |aN vs ds B F=>exact absurd rfl (ht ds)
 |_=>
  refine⟨by simp[Value.cells,D.cells],by simp[D.cells,D.one],λi x y j k=>?_⟩
  simp only[Value.cells,D.cells]at j k
  rcases i with _|i
  ·simp at j k
   subst j;subst k
   constructor<;>assumption
  simp at j
inductive T where
 |undef
 |d (x:D)
 |bC (size:Nat)
 |ptr (id off:Nat)
 |bB (size:Nat) (els:List D) (k off:Nat)
 |row (id:Nat)
 |bw (id k off:Nat)
 |map (id:Nat)
 |aN (ts:List T)
 |cond (pc:List (Nat×Bool×Bool)) (t:T)
 |aD (f:FuncId) (ts:List T)
 |bf (id:Nat)
 |agg (ts:List T)
 |sub (id lo hi:Nat)
 |bJ (id:Nat) (x:D)
 |cE (id n:Nat)
 deriving Inhabited
abbrev Tm:=List (Nat×T)
def get:Tm->Nat->T
 | [],_=>.undef
 | (i,t)::r,k=>if i=k then t else get r k
def bR(s:Tm)(j:Option Nat)(t:T):Tm:=match j with|some d=>(d,t)::s|none=>s
inductive AO where
 |dead
 |var (ty:TypeId) (cs:List T)
 |row (e size:Nat) (els:List D)
 |br (e size:Nat) (els:List D)
 |map (ks vs:List D)
 |dR (ks vs:List D)
 |iter (ks vs:List D) (done:List Nat)
 |bz (e size:Nat) (ks vs:List D) (op:Option Nat)
 |frame (base:Nat) (vals:Nat->Value) (t:Tm)
 |loop (base n:Nat) (ps:Array Tmp) (bc body:Code) (t:Tm) (st:LoopState) (cY:Option Code)
 deriving Inhabited
def AO.isVar:AO->Bool |.var .. =>true |.iter .. =>true |.frame .. =>true |.loop .. =>true|_=>false
def AO.isRow:AO->Bool |.row .. =>true |.br .. =>true |.map .. =>true |.dR .. =>true |.bz .. =>true|_=>false
def AO.tP:AO->Bool |.bz .. =>true|_=>false
def AO.cI:AO->Bool |.br .. =>true|_=>false
def isVar(l:List AO)(id:Nat):Bool:=((l[id]?).map AO.isVar).getD false
def isRow(l:List AO)(id:Nat):Bool:=((l[id]?).map AO.isRow).getD false
def cI(l:List AO)(id:Nat):Bool:=((l[id]?).map AO.cI).getD false
def holds:List (Nat×Bool×Bool)->Prop
 | []=>True
 | (_,c,b)::r=>c=b/\holds r
inductive ar(I:ay)(m:Nat->Value)(l:List AO):Value->T->Prop
 |undef (v):ar I m l v .undef
 |d (v x):Rd I v x->ar I m l v (.d x)
 |bC (size):ar I m l (.slice none 0 0) (.bC size)
 |ptr (id b off):isVar l id=true->m id=.pointer (some ⟨b,0,none⟩)->ar I m l (.pointer (some ⟨b,off,none⟩)) (.ptr id off)
 |bB (b o size els k off) (val:Nat->Value):k<els.length->(∀d∈els,d.cells.length=size/\∀x∈d.cells,x.one=true) ->
   (∀j,j<els.length*size->I.cell b (o+j)=some (val j))->(∀(j:Nat) x,(flat els)[j]?=some x->Rd I (val j) x)->ar I m l (.pointer (some ⟨b,o+k*size+off,none⟩)) (.bB size els k off)
 |row (A:Option Addr) (n c id:Nat):id<l.length->(isRow l id=true->m id=.slice A n c)->ar I m l (.slice A n c) (.row id)
 |bw (a:Addr) (id k off):id<l.length->(∀e size els,(l[id]?=some (.row e size els)\/l[id]?=some (.br e size els))->∃b n c,m id=.slice (some ⟨b,0,none⟩) n c/\a=⟨b,k*size+off,none⟩)->ar I m l (.pointer (some a)) (.bw id k off)
 |map (r:Option Nat) (id:Nat):id<l.length->(isRow l id=true->m id=.map r)->ar I m l (.map r) (.map id)
 |aN (vs:Array Value) (ts:List T):vs.size=ts.length->(∀(i:Nat) v t,vs[i]?=some v->ts[i]?=some t->ar I m l v t)->ar I m l (.tuple vs) (.aN ts)
 |cond (v pc t):(holds pc->ar I m l v t)->(¬holds pc->v=Go.undef)->ar I m l v (.cond pc t)
 |aD (g) (vs:Array Value) (ts:List T):vs.size=ts.length->(∀(i:Nat) v t,vs[i]?=some v->ts[i]?=some t->ar I m l v t)->ar I m l (.func (.func g) #[] vs) (.aD g ts)
 |bf (id b):isVar l id=true->m id=.func (.yield b) #[] #[]->ar I m l (.func (.yield b) #[] #[]) (.bf id)
 |sub (A:Option Addr) (n c id lo hi:Nat):id<l.length->(∀e size els,(l[id]?=some (.row e size els)\/l[id]?=some (.br e size els))->∃A0 n0 c0,m id=.slice A0 n0 c0/\lo<=hi/\hi<=n0/\Value.slice A n c=sliced A0 lo hi c0 size)->ar I m l (.slice A n c) (.sub id lo hi)
 |bJ (A:Option Addr) (n c id:Nat) (x:D):id<l.length->(isRow l id=true->m id=.slice A n c)->Rd I (.slice A n c) x->ar I m l (.slice A n c) (.bJ id x)
 |cE (id b n c:Nat):isVar l id=true->m id=.pointer (some ⟨b,0,none⟩)->n<=c->c<=maxLen->ar I m l (.slice (some ⟨b,0,none⟩) n c) (.cE id n)
 |agg (vs:Array Value) (ts:List T):vs.size=ts.length->(∀(i:Nat) v,vs[i]?=some v->v.oneCell'=true)->(∀(i:Nat) v t,vs[i]?=some v->ts[i]?=some t->ar I m l v t)->ar I m l (.agg vs) (.agg ts)
structure Le(I:ay)(m:Nat->Value)(l:List AO)(J:ay)(m':Nat->Value)(l':List AO):Prop where
 dg:I.le J
 len:l.length<=l'.length
 var:∀id,id<l.length->isVar l id=true->isVar l' id=true/\m' id=m id
 row:∀id,id<l.length->isRow l' id=true->isRow l id=true/\m' id=m id
 rows:∀id e size els,id<l.length->(l'[id]?=some (.row e size els)\/l'[id]?=some (.br e size els))->∃els',(l[id]?=some (.row e size els')\/l[id]?=some (.br e size els'))
theorem Le.refl(I:ay)(m:Nat->Value)(l:List AO):Le I m l I m l:=⟨.refl I,eb _,λ_ _ h=>⟨h,rfl⟩,λ_ _ h=>⟨h,rfl⟩,λ_ _ _ els _ h=>⟨els,h⟩⟩
theorem Le.trans{I J K:ay}{m m' U:Nat->Value}{l l' O:List AO}(h:Le I m l J m' l')(k:Le J m' l' K U O):Le I m l K U O where
 dg:=h.dg.trans k.dg
 len:=hJ h.len k.len
 var id j B:=by
  obtain⟨F,G⟩:=h.var id j B
  obtain⟨M,N⟩:=k.var id (p1 j h.len) F
  exact⟨M,N.trans G⟩
 row id j B:=by
  obtain⟨M,N⟩:=k.row id (p1 j h.len) B
  obtain⟨F,G⟩:=h.row id j M
  exact⟨F,N.trans G⟩
 rows id e size els j B:=by
  obtain⟨els',Y⟩:=k.rows id e size els (p1 j h.len) B
  exact h.rows id e size els' j Y
def zg{l:List AO}{base id:Nat}(h:id<base):isVar (l.take base) id=isVar l id:=by unfold isVar;rw[gl,if_pos h]
def ze{l:List AO}{base id:Nat}(h:id<base):isRow (l.take base) id=isRow l id:=by unfold isRow;rw[gl,if_pos h]
def Le.take{I J:ay}{m m':Nat->Value}{l l':List AO}(h:Le I m l J m' l')(base:Nat):Le I m (l.take base) J m' (l'.take base) where
 dg:=h.dg
 len:=by have:=h.len;rw[e8,e8];omega
 var id k j:=by
  rw[e8]at k
  rw[zg (by omega)]at j⊢
  exact h.var id (by omega) j
 row id k j:=by
  rw[e8]at k
  rw[ze (by omega)]at j⊢
  exact h.row id (by omega) j
 rows id e size els k j:=by
  rw[e8]at k
  rw[gl,if_pos (by omega)]at j⊢
  exact h.rows id e size els (by omega) j
def Le.vg(I:ay)(m:Nat->Value)(l:List AO)(base:Nat):Le I m (l.take base) I m l where
 dg:=.refl I
 len:=by rw[e8];omega
 var id k j:=by
  rw[e8]at k
  rw[zg (by omega)]at j
  exact⟨j,rfl⟩
 row id k j:=by
  rw[e8]at k
  rw[ze (by omega)]
  exact⟨j,rfl⟩
 rows id e size els k j:=by
  rw[e8]at k
  refine⟨els,?_⟩
  rw[gl,if_pos (by omega)];exact j
def zf{l:List AO}{id:Nat}(h:isVar l id=true):id<l.length:=by
 unfold isVar at h
 rcases lB id l.length with h'|h'
 ·exact h'
 rw[hF h']at h;simp at h
theorem ar.mono{I J:ay}{m m':Nat->Value}{l l':List AO}(h:Le I m l J m' l'){v:Value}{t:T}(r:ar I m l v t):ar J m' l' v t:=by
 induction r with
 |undef v=>exact .undef v
 |d v x r=>exact .d v x (r.mono h.dg)
 |bC s=>exact .bC s
 |ptr id b off B F=>
  obtain⟨G,M⟩:=h.var id (zf B) B
  exact .ptr id b off G (M.trans F)
 |bB b o size els k off val B F O Y=>exact .bB b o size els k off val B F (λj ae=>h.dg.cell _ _ _ (O j ae)) (λj x ag=>(Y j x ag).mono h.dg)
 |row A n c id B F=>
  refine .row A n c id (p1 B h.len) λhl=>?_
  obtain⟨G,M⟩:=h.row id B hl
  exact M.trans (F G)
 |bw a id k off B F=>
  refine .bw a id k off (p1 B h.len) λe size els hl=>?_
  obtain⟨els',U⟩:=h.rows id e size els B hl
  obtain⟨b,n,c,Z,aa⟩:=F e size els' U
  have:isRow l' id=true:=by unfold isRow;rcases hl with hl|hl<;>simp[hl,AO.isRow]
  exact⟨b,n,c,(h.row id B this).2.trans Z,aa⟩
 |sub A n c id lo hi B F=>
  refine .sub A n c id lo hi (p1 B h.len) λe size els hl=>?_
  obtain⟨els',U⟩:=h.rows id e size els B hl
  obtain⟨ab,n0,ad,Z,aa⟩:=F e size els' U
  have:isRow l' id=true:=by unfold isRow;rcases hl with hl|hl<;>simp[hl,AO.isRow]
  exact⟨ab,n0,ad,(h.row id B this).2.trans Z,aa⟩
 |bJ A n c id x B F O=>
  refine .bJ A n c id x (p1 B h.len) (λhl=>?_) (O.mono h.dg)
  obtain⟨G,M⟩:=h.row id B hl
  exact M.trans (F G)
 |map r id B F=>
  refine .map r id (p1 B h.len) λhl=>?_
  obtain⟨G,M⟩:=h.row id B hl
  exact M.trans (F G)
 |aN vs ts B _ N=>exact .aN vs ts B N
 |cond v pc t _ af N=>exact .cond v pc t N af
 |aD g vs ts B _ N=>exact .aD g vs ts B N
 |bf id b B F=>
  obtain⟨G,M⟩:=h.var id (zf B) B
  exact .bf id b G (M.trans F)
 |cE id b n c B F O Y=>
  obtain⟨G,M⟩:=h.var id (zf B) B
  exact .cE id b n c G (M.trans F) O Y
 |agg vs ts B F _ N=>exact .agg vs ts B F N
def own:Value->Option Nat
 |.pointer (some a)=>some a.block
 |.slice (some a) _ _=>some a.block
 |.map (some b)=>some b
 |.func (.yield b) _ _=>some b
 |_=>none
def ay.dY(I:ay)(b:Nat):Prop:=(∀o,I.cell b o=none)/\I.mp b=none
def dZ(o:Option Obj)(j:ME):Prop:=o=some (.map j.1 j.2)/\MapKept.Stamped j.1 j.2
def dZ.to{o o':Option Obj}{j:ME}(h:o'=o)(k:dZ o j):dZ o' j:=⟨h.trans k.1,k.2⟩
def vz(j:ME)(i:Nat):Nat:=((j.1[i]?).map (·.born)).getD 0
def jj(B:Nat)(w:World)(I:ay)(v:Value)(e size:Nat)(els:List D):Prop:=∃xs,w.ownsRow B e size v els.length xs/\(∀d∈els,d.cells.length=size/\∀x∈d.cells,x.one=true)/\(∀(j:Nat) x y,xs[j]?=some x->(flat els)[j]?=some y->Rd I x y)/\(∀b,own v=some b->I.mp b=none/\(∀(j:Nat) x,xs[j]?=some x->I.cell b j=some x)/\∀j,xs.length<=j->I.cell b j=none)
def x8(B:Nat)(w:World)(I:ay)(m:Nat->Value)(l:List AO)(e size:Nat)(F:ME)(vs:List D)(G:Option Nat):Prop:=
 ∃k:Nat->Nat,(∀(i:Nat)(en:MapEntry)(d:D),G≠some i->F.1[i]?=some en->vs[i]?=some d->∃els,d=.slice size els/\els≠[]/\own en.val=some (k i)/\jj B w I en.val e size els) /\
  (∀i j,i≠j->i<F.1.size->j<F.1.size->G≠some i->G≠some j->k i≠k j)/\∀q i,cI l q=true->i<F.1.size->G≠some i->own (m q)≠some (k i)
def dW(B:Nat)(w:World)(I:ay)(m:Nat->Value)(l:List AO)(v:Value):AO->Prop
 |.dead=>True
 |.var ty cs=>∃b vs,v=.pointer (some ⟨b,0,none⟩)/\B<=b/\w.heap[b]?=some (.cells vs ty (0,0))/\vs.size=cs.length/\(∀(i:Nat) x t,vs[i]?=some x->cs[i]?=some t->ar I m l x t/\x.oneCell'=true)/\I.dY b
 |.row e size els=>∃xs,w.ownsRow B e size v els.length xs/\(∀d∈els,d.cells.length=size/\∀x∈d.cells,x.one=true)/\(∀(j:Nat) x y,xs[j]?=some x->(flat els)[j]?=some y->Rd I x y)/\(∀b,own v=some b->I.dY b)
 |.br e size els=>∃xs,w.ownsRow B e size v els.length xs/\(∀d∈els,d.cells.length=size/\∀x∈d.cells,x.one=true)/\(∀(j:Nat) x y,xs[j]?=some x->(flat els)[j]?=some y->Rd I x y)/\(∀b,own v=some b->I.mp b=none/\(∀(j:Nat) x,xs[j]?=some x->I.cell b j=some x)/\∀j,xs.length<=j->I.cell b j=none)
 |.map G vs=>∃b F,v=.map (some b)/\B<=b/\dZ w.heap[b]? F/\F.1.size=G.length/\F.1.size=vs.length/\(∀(i:Nat)(e:MapEntry)(d:D),F.1[i]?=some e->G[i]?=some d->Rd I e.key d)/\(∀(i:Nat)(e:MapEntry)(d:D),F.1[i]?=some e->vs[i]?=some d->Rd I e.val d)/\I.dY b
 |.dR G vs=>∃b F,v=.map (some b)/\B<=b/\dZ w.heap[b]? F/\F.1.size=G.length/\F.1.size=vs.length/\(∀(i:Nat)(e:MapEntry)(d:D),F.1[i]?=some e->G[i]?=some d->Rd I e.key d)/\(∀(i:Nat)(e:MapEntry)(d:D),F.1[i]?=some e->vs[i]?=some d->Rd I e.val d)/\(∀o,I.cell b o=none)/\I.mp b=some F
 |.iter G vs done=>∃b M F seen,v=.pointer (some ⟨b,0,none⟩)/\B<=b/\w.heap[b]?=some (.mapIter M F.2 seen F.2)/\((∀r,M=some r->I.mp r=some F)/\(M=none->F.1 = #[]))/\F.1.size=G.length/\F.1.size=vs.length/\(∀(i:Nat)(e:MapEntry)(d:D),F.1[i]?=some e->G[i]?=some d->Rd I e.key d)/\(∀(i:Nat)(e:MapEntry)(d:D),F.1[i]?=some e->vs[i]?=some d->Rd I e.val d)/\(seen.toList=done.map (vz F)/\∀i∈done,i<F.1.size)/\I.dY b
 |.bz e size G vs O=>∃b F,v=.map (some b)/\B<=b/\dZ w.heap[b]? F/\F.1.size=G.length/\F.1.size=vs.length/\(∀(i:Nat)(e:MapEntry)(d:D),F.1[i]?=some e->G[i]?=some d->Rd I e.key d)/\(∀(i:Nat)(e:MapEntry)(d:D),F.1[i]?=some e->vs[i]?=some d->Rd I e.val d)/\I.dY b/\0<size/\x8 B w I m l e size F vs O
 |.frame base vals t=>own v=none/\base<=l.length/\∀k,ar I m (l.take base) (vals k) (get t k)
 |.loop base n ps bc N t st cY=>∃b r,v=.func (.yield b) #[] #[]/\B<=b/\w.heap[b]?=some (.loop r)/\(r.state=st/\r.pending=cY/\r.params=ps/\r.assign=bc/\r.body=N/\r.tmps.size=n)/\base<=l.length/\(∀k,ar I m (l.take base) (r.tmps.getD k undef) (get t k))/\I.dY b
class bq where
 on:Prop
 iS:Nat->Option D:=λ_=>none
variable [bq]
structure du(w:World)(I:ay):Prop where
 cell:∀b o v,I.cell b o=some v->w.cell? ⟨b,o,none⟩=some v
 mp:∀b es,I.mp b=some es->dZ w.heap[b]? es
 df:∀b,I.df b->w.heap[b]?=some (.deferred (some []))
 dz:∀g d,bq.iS g=some d->Rd I (.pointer (some ⟨g,0,none⟩)) (.box d)
def du.kI{w:World}{I:ay}(h:du w I){b:Nat}(j:I.df b):b<w.heap.size:=(e6.1 (h.df b j)).1
def du.lP{w:World}{I:ay}(h:du w I){b:Nat}{o:Obj}(j:w.heap[b]?=some o)(B:o ≠ .deferred (some [])):¬I.df b:=λk=>by rw[h.df b k]at j;injection j with j;exact B j.symm
def du.lt{w:World}{I:ay}(h:du w I){b o:Nat}{v:Value}(j:I.cell b o=some v):b<w.heap.size:=World.block_lt_of_cell? w ⟨b,o,none⟩ (h.cell b o v j)
def du.ny{w:World}{I:ay}(h:du w I){b:Nat}{j:ME}(k:I.mp b=some j):b<w.heap.size:=by
 have B:=h.mp b j k
 exact(e6.1 B.1).1
theorem du.dY{w:World}{I:ay}(h:du w I){b:Nat}(k:w.heap.size<=b):I.dY b:=by
 refine⟨λo=>?_,?_⟩
 ·cases j:I.cell b o with
  |none=>rfl
  |some v=>have:=h.lt j;omega
 cases j:I.mp b with
 |none=>rfl
 |some v=>have:=h.ny j;omega
structure fD(B:Nat)(I J:ay):Prop where
 lc:∀b o v,I.cell b o=some v->J.cell b o=some v
 lm:∀b es,I.mp b=some es->J.mp b=some es
 ld:∀b,b<B->I.df b->J.df b
 cell:∀b,b<B->J.cell b=I.cell b
 mp:∀b,b<B->J.mp b=I.mp b
theorem fD.of{B:Nat}{I J:ay}(h:I.le J)(j:∀b,b<B->J.cell b=I.cell b)(k:∀b,b<B->J.mp b=I.mp b):fD B I J:=⟨h.cell,h.mp,λb _=>h.df b,j,k⟩
def fD.le{B:Nat}{I J:ay}(h:fD B I J)(k:∀b,I.df b->b<B):I.le J:=⟨h.lc,h.lm,λb j=>h.ld b (k b j) j⟩
theorem fD.refl(B:Nat)(I:ay):fD B I I:=.of (.refl I) (λ_ _=>rfl) (λ_ _=>rfl)
theorem fD.trans{B F:Nat}{I J K:ay}(h:fD B I J)(k:fD F J K)(G:B<=F):fD B I K:=⟨λ_ _ _ x=>k.lc _ _ _ (h.lc _ _ _ x),λ_ _ x=>k.lm _ _ (h.lm _ _ x),λb j x=>k.ld b (by omega) (h.ld b j x),λb j=>(k.cell b (by omega)).trans (h.cell b j),λb j=>(k.mp b (by omega)).trans (h.mp b j)⟩
def alive(l:List AO)(id:Nat):Bool:=isVar l id||isRow l id
structure dN(B:Nat)(w w':World):Prop where
 os:w'.os=w.os
 tape:w'.tape=w.tape
 output:w'.output=w.output
 size:w.heap.size<=w'.heap.size
 block:∀k,k<B->w'.heap[k]?=w.heap[k]?
 drawn:bq.on->w.drawn<=w'.drawn
theorem dN.refl(B:Nat)(w:World):dN B w w:=⟨rfl,rfl,rfl,eb _,λ_ _=>rfl,λ_=>eb _⟩
def dN.below{B:Nat}{w w':World}(h:dN B w w'):Below B w w':=⟨h.os,h.tape,h.output,h.size,h.block⟩
theorem dN.of{B:Nat}{w w':World}(h:Below B w w')(j:bq.on->w.drawn<=w'.drawn):dN B w w':=⟨h.os,h.tape,h.output,h.size,h.block,j⟩
theorem dN.trans{B:Nat}{a b c:World}(h:dN B a b)(k:dN B b c):dN B a c:=.of (h.below.trans k.below) λo=>hJ (h.drawn o) (k.drawn o)
theorem dN.mono{B j:Nat}{w w':World}(h:dN B w w')(k:j<=B):dN j w w':=.of (h.below.mono k) h.drawn
theorem dN.alloc{B:Nat}{w w':World}(h:dN B w w')(j:B<=w'.heap.size)(o:Obj):dN B w (w'.alloc o):=.of (h.below.alloc j o) h.drawn
def dN.drew{B:Nat}{w w':World}(h:dN B w w'):dN B w w'.drew:=.of h.below.drew λo=>hJ (h.drawn o) (ss _)
structure aH(w0:World)(I0:ay)(w:World)(I:ay)(m:Nat->Value)(l:List AO):Prop where
 below:dN w0.heap.size w0 w
 sat:du w I
 ext:fD w0.heap.size I0 I
 obj:∀id o,l[id]?=some o->dW w0.heap.size w I m l (m id) o
 sep:∀i j b,i≠j->alive l i=true->alive l j=true->own (m i)=some b->own (m j)≠some b
end Go.ag
namespace Go.ag
open Go Go.RowKit
def Cm{α:Type}:∀(x:Ask α)(w:World),w.drawn<=(w.ask x).2.drawn
 |.done a,w=>eb _
 |.ask j range k,w=>by
  simp only[World.ask]
  split
  ·exact Cm _ w
  exact hJ (ss _) (Cm (k _) {w with drawn:=w.drawn+1})
def ZV(w:World)(c:Sys):w.drawn<=(w.sys c).2.drawn:=by
 unfold World.sys
 have h:=Cm (Kernel.perform c w.os) w
 split
 ·exact eb _
 rename_i r B w' k j
 rw[j]at h;exact h
def aaG{p:Program}{w w':World}{at_:Addr}{u:TypeId}{k:Addr}{v:Value}{j:Bool}{l:List Addr}(h:w.viewStore p at_ u k v j=.ok (w',l)):w'.drawn=w.drawn:=by
 unfold World.viewStore at h
 simp only[bind,Except.bind,pure,Except.pure,throw,throwThe,MonadExceptOf.throw]at h
 repeat' split at h
 all_goals first|cases h;done|skip
 all_goals (injection h with h;injection h with h _;subst h;rfl)
def Uh{p:Program}{w w':World}{a:Addr}{v:Value}{j:Bool}{l:List Addr}(h:w.farStore p a v j=.ok (w',l)):w'.drawn=w.drawn:=by
 unfold World.farStore at h
 split at h
 ·split at h
  ·rename_i r k
   injection h with h;subst h;exact aaG k
  cases h
 cases h
def gG{α:Type}(p:Program):∀(s:Sem α) (w:World) (a:α) (w':World),s.run p w=.ok a w'->w.drawn<=w'.drawn
 |.pure a,w,b,w',h=>by simp only[Sem.run]at h;cases h;exact eb _
 |.load m a k,w,b,w',h=>by
  simp only[Sem.run]at h
  split at h
  ·exact gG p _ w b w' h
  split at h
  ·exact gG p _ w b w' h
  cases h
 |.store m a v k,w,b,w',h=>by
  have key:∀u:Value,(match w.cell? a with
    |some _=>if w.frozen? a then Result.halt (.unsupported (.unsafePointer "a write to bytes that a string shares")) w else k.run p (w.setCell a u)
    |none=>match w.farStore p a u (m == .atomic)with
     |.ok (w,_)=>k.run p w
     |.error h=>.halt h w)=Result.ok b w'->w.drawn<=w'.drawn:=by
   intro u h
   split at h
   ·split at h
    ·cases h
    have:=gG p k _ b w' h;exact this
   split at h
   ·rename_i B l j
    have:=gG p k _ b w' h
    rw[Uh j]at this;exact this
   cases h
  cases v<;>simp only[Sem.run]at h<;>first|exact key _ h|cases h
 |.new o k,w,b,w',h=>by simp only[Sem.run]at h;have:=gG p _ _ b w' h;exact this
 |.shape r k,w,b,w',h=>by simp only[Sem.run]at h;exact gG p _ _ b w' h
 |.freeze a n k,w,b,w',h=>by
  simp only[Sem.run]at h
  have:=gG p _ _ b w' h
  unfold World.freeze at this
  split at this<;>exact this
 |.frozen a k,w,b,w',h=>by simp only[Sem.run]at h;exact gG p _ _ b w' h
 |.getObj r k,w,b,w',h=>by
  simp only[Sem.run]at h
  split at h
  ·cases h
  ·exact gG p _ _ b w' h
  cases h
 |.setObj r o k,w,b,w',h=>by
  simp only[Sem.run]at h
  split at h
  ·cases h
  ·have:=gG p _ _ b w' h;exact this
  cases h
 |.choose q k,w,b,w',h=>by
  simp only[Sem.run]at h
  split at h
  ·exact gG p _ _ b w' h
  exact hJ (ss _) (gG p _ _ b w' h)
 |.sys c k,w,b,w',h=>by simp only[Sem.run]at h;exact hJ (ZV w c) (gG p _ _ b w' h)
 |.program k,w,b,w',h=>by simp only[Sem.run]at h;exact gG p _ _ b w' h
 |.mark m k,w,b,w',h=>by simp only[Sem.run]at h;exact gG p _ _ b w' h
 |.halt x,w,b,w',h=>by simp only[Sem.run]at h;cases h
def Nk(s:ByteArray):∀(bound i:Nat)(j:Array Value),(∀x∈j.toList,∃n,x=.int .i32 n)->∀x∈(Conv.runesFrom s bound i j).toList,∃n,x=.int .i32 n
 |0,_,j,h=>h
 |bound+1,i,j,h=>by
  unfold Conv.runesFrom
  split
  ·refine Nk s bound _ _ λx k=>?_
   simp at k
   rcases k with k|rfl
   ·exact h x (by simpa using k)
   exact⟨_,rfl⟩
  exact h
end Go.ag
namespace Go.ag
open Go Go.RowKit
inductive TD where
 |jc
 |dS (k:IntKind)
 |string
 |slice (e:TypeId)
 |struct (fs:List (Nat×TypeId))
 |array (n:Nat) (e:TypeId)
 |map (k v:TypeId)
 deriving DecidableEq,Inhabited
structure TI where
 size:Nat
 bytes:Nat
 zero:List D
 desc:TD
def TD.agg:TD->Bool
 |.struct _=>true
 |.array _ _=>true
 |_=>false
abbrev cm:=TypeId->Option TI
abbrev xY:=FuncId->List D->Option (D×Prop)
structure FR where
 t:T
 l:List AO
 ob:Prop
abbrev Cc:=FuncId->List T->List AO->Option FR
def eM(agg:Bool)(cs:List D):D:=if agg then .agg cs else cs.headD .dX
inductive qE where
 |none
 |new (o:AO)
 |aP (l:List AO)
structure R where
 t:T
 bA:qE
 ob:Prop
def R.ok(t:T):R:=⟨t,.none,True⟩
def R.bad:R:=⟨.undef,.none,False⟩
def pk:Value->D->Bool
 |.bool b,.bool c=>b == c
 |.int k n,.int j B=>k == j&&n == B
 |.string s,.str s'=>s.data == s'.data
 |.slice none 0 0,.slice _ []=>true
 |.pointer none,.dX=>true
 |.map none,.map [] []=>true
 |.nilFunc,.iU=>true
 |.nilIface,.qa=>true
 |_,_=>false
def qT:Value->T
 |.bool b=>.d (.bool b)
 |.int k n=>.d (.int k n)
 |.string s=>.d (.str s)
 |.slice none 0 0=>.bC 0
 |.pointer none=>.d .dX
 |.map none=>.d (.map [] [])
 |.nilFunc=>.d .iU
 |.nilIface=>.d .qa
 |_=>.undef
def bN[bq](s:Tm):Operand->T
 |.tmp t=>get s t
 |.const v=>qT v
 |.func f=>.d (.fn f)
 |.global g=>match bq.iS g with|some d=>.bB d.cells.length [d] 0 0|none=>.undef
structure St where
 t:Tm
 l:List AO
def cV(l:List AO):T->Option (D×List AO)
 |.d x=>some (x,l)
 |.bJ _ x=>some (x,l)
 |.bC s=>some (.slice s [],l)
 |.row id=>match l[id]? with
  |some (.br _ s els)=>some (.slice s els,l)
  |some (.row e s els)=>some (.slice s els,l.set id (.br e s els))
  |_=>none
 |.map id=>match l[id]? with
  |some (.dR ks vs)=>some (.map ks vs,l)
  |some (.map ks vs)=>some (.map ks vs,l.set id (.dR ks vs))
  |_=>none
 |_=>none
def dq:List AO->List T->Option (List D×List AO)
 |l,[]=>some ([],l)
 |l,t::ts=>match cV l t with
  |none=>none
  |some (x,l')=>match dq l' ts with
   |none=>none
   |some (xs,j)=>some (x::xs,j)
def jC(l:List AO):T->Bool
 |.d _=>true
 |.bJ _ _=>true
 |.bC _=>true
 |.row id=>match l[id]? with|some (.br ..)=>true|_=>false
 |.map id=>match l[id]? with|some (.dR ..)=>true|_=>false
 |_=>false
def dx(l:List AO)(t:T):Option (D×List AO):=match t with
 |.agg ts=>(match dq l ts with
  |some (ds,l')=>some (.agg ds,l')
  |none=>none)
 |t=>cV l t
def fh:List AO->List T->Option (List D×List AO)
 |l,[]=>some ([],l)
 |l,t::ts=>match dx l t with
  |none=>none
  |some (x,l')=>match fh l' ts with
   |none=>none
   |some (xs,j)=>some (x::xs,j)
def nM(l:List AO)(t:T):Bool:=match t with
 |.agg ts=>ts.all (jC l)
 |t=>jC l t
def arith(k:IntKind)(n:Int):D×Prop:=
 match k with
 |.i64=>(.int .i64 n,-9223372036854775808<=n/\n<=9223372036854775807)
 |k=>(.int k (k.wrap n),True)
mutual
def gz:D->D->Bool
 |.bool a,.bool b=>a == b
 |.int _ a,.int _ b=>a == b
 |.str a,.str b=>a == b
 |.agg xs,.agg ys=>di xs ys
 |_,_=>false
def di:List D->List D->Bool
 | [],[]=>true
 |x::xs,y::ys=>gz x y&&di xs ys
 |_,_=>false
end
inductive Lf where
 |bool
 |int (k:IntKind)
 |str
 deriving DecidableEq
def rz:Lf->D->Bool
 |.bool,.bool _=>true
 |.int k,.int j _=>k == j
 |.str,.str _=>true
 |_,_=>false
def fH:List Lf->List D->Bool
 | [],[]=>true
 |x::xs,d::ds=>rz x d&&fH xs ds
 |_,_=>false
def vn(k:IntKind)(a b:Int):Int:=k.wrap ((BitVec.ofInt k.bits a &&& BitVec.ofInt k.bits b).toNat:Int)
def uS(k:IntKind)(a b:Int):Int:=a.fdiv (2 ^ min b.toNat k.bits)
def Gz(j:BinOp)(k:IntKind)(a b:Int):Option (D×Prop):=match j with
 |.shr=>some (.int k (uS k a b),0<=b)
 |_=>none
def eS(B:TypeId->Option (List Lf))(j:BinOp)(ty:TypeId):D->D->Option (D×Prop)
 |.int k a,.int F b=>
  if k≠F then Gz j k a b else
  match j with
  |.shr=>some (.int k (uS k a b),0<=b)
  |.and=>some (.int k (vn k a b),True)
  |.add=>some ((arith k (a+b)).1,(arith k (a+b)).2)
  |.sub=>some ((arith k (a-b)).1,(arith k (a-b)).2)
  |.mul=>some ((arith k (a*b)).1,(arith k (a*b)).2)
  |.quo=>(match k with |.i64=>some (.int .i64 (a.tdiv b),b≠0 /\ -9223372036854775808<=a.tdiv b/\a.tdiv b<=9223372036854775807)|_=>none)
  |.rem=>some (.int k (a.tmod b),b≠0)
  |.eql=>some (.bool (decide (a=b)),True)
  |.neq=>some (.bool (!decide (a=b)),True)
  |.lss=>some (.bool (decide (a<b)),True)
  |.leq=>some (.bool (decide (a<=b)),True)
  |.gtr=>some (.bool (decide (b<a)),True)
  |.geq=>some (.bool (decide (b<=a)),True)
  |_=>none
 |.bool a,.bool b=>match j with
  |.eql=>if B ty=some [.bool]then some (.bool (a == b),True)else none
  |.neq=>if B ty=some [.bool]then some (.bool (!(a == b)),True)else none
  |_=>none
 |.str a,.str b=>match j with
  |.eql=>some (.bool (a == b),True)
  |.neq=>some (.bool (!(a == b)),True)
  |.add=>some (.str (a++b),(a.size:Int)+(b.size:Int)<=9223372036854775807)
  |_=>none
 |.agg xs,.agg ys=>match j with
  |.eql=>(match B ty with|some ls=>if ls=[.bool]then none else some (.bool (di xs ys),fH ls xs=true/\fH ls ys=true)|none=>none)
  |.neq=>(match B ty with|some ls=>if ls=[.bool]then none else some (.bool (!(di xs ys)),fH ls xs=true/\fH ls ys=true)|none=>none)
  |_=>none
 |_,_=>none
def ve(j:UnOp):D->Option (D×Prop)
 |.bool b=>match j with |.not=>some (.bool (!b),True)|_=>none
 |.int k n=>match j with |.neg=>some ((arith k (0-n)).1,(arith k (0-n)).2)|_=>none
 |_=>none
def kN:Option (D×Prop)->R
 |some (x,ob)=>⟨.d x,.none,ob⟩
 |none=>.bad
def bx:T->List T
 |.d x=>x.cells.map .d
 |.agg ts=>ts
 |t=>[t]
def T.fS:T->Bool
 |.d x=>x.one
 |.aN _=>false
 |.cond _ _=>false
 |.agg _=>false
 |.undef=>false
 |_=>true
def gJ:T->Option D
 |.d x=>some x
 |.bC s=>some (.slice s [])
 |_=>none
def fi:T->Option D
 |.d x=>some x
 |_=>none
def gk(agg:Bool)(cs:List T):T:=if agg then(match cs.mapM fi with|some ds=>.d (.agg ds)|none=>.agg cs)else cs.headD .undef
def iO:D->T
 |.slice s []=>.bC s
 |x=>.d x
def unbox:T->T
 |.d (.box d)=>.bB d.cells.length [d] 0 0
 |t=>t
def mf(g:FuncId)(ts:List T):T:=match ts.mapM fi with
 |some ds=>.d (.aD g ds)
 |none=>.aD g ts
def setAt{α:Type}(l:List α)(off:Nat)(xs:List α):List α:=l.take off++xs++l.drop (off+xs.length)
def bD(E:cm)(t:TypeId):Nat:=((E t).map TI.size).getD 0
def lF(j:Nat->Option (Nat×Nat))(cells:List T):List (Nat×T)->Option (List T)
 | []=>some cells
 | (i,t)::rest=>match j i with
  |some (off,size)=>if(bx t).length=size/\off+size<=cells.length/\(bx t).all T.fS=true then lF j (setAt cells off (bx t)) rest else none
  |none=>none
def se(E:cm)(fs:List (Nat×TypeId))(i:Nat):Option (Nat×Nat):=(fs[i]?).map λf=>(f.1,bD E f.2)
def eK(els:List D)(k:Nat):D:=(els[k]?).getD .dX
def rp:D->Bool
 |.agg _=>true
 |_=>false
def iD(i:TI)(size:Nat)(els:List D)(k off:Nat):R:=
 if size=i.size/\off=0 then⟨.d (eK els k),.none,k<els.length/\rp (eK els k)=i.desc.agg⟩
 else⟨.d (eM i.desc.agg (((eK els k).cells.drop off).take i.size)),.none,k<els.length/\off+i.size<=size⟩
def fo(E:cm)(ty:TypeId)(l:List AO):T->R
 |.ptr id off=>match E ty,l[id]? with
  |some i,some (.var _ cs)=>if off+i.size<=cs.length then .ok (gk i.desc.agg ((cs.drop off).take i.size))else .bad
  |_,_=>.bad
 |.bB size els k off=>match E ty with
  |some i=>iD i size els k off
  |none=>.bad
 |.bw id k off=>match E ty,l[id]? with
  |some i,some (.row _ size els)|some i,some (.br _ size els)=>iD i size els k off
  |_,_=>.bad
 |_=>.bad
def mL(l:List AO):T->T->R
 |.ptr id off,x=>match l[id]? with
  |some (.var ty cs)=>if off+(bx x).length<=cs.length then⟨.undef,.aP (l.set id (.var ty (setAt cs off (bx x)))),((bx x).all T.fS)=true⟩else .bad
  |_=>.bad
 |.bw id k 0,.d x=>match l[id]? with
  |some (.row e size els)=>if x.cells.length=size then⟨.undef,.aP (l.set id (.row e size (els.set k x))),x.cells.length=size/\x.cells.all D.one=true/\k<els.length⟩else(match eK els k with
   |.agg cs=>⟨.undef,.aP (l.set id (.row e size (els.set k (.agg (setAt cs 0 x.cells))))),0+x.cells.length<=size/\x.cells.all D.one=true/\k<els.length⟩
   |_=>.bad)
  |_=>.bad
 |.bw id k (off+1),.d x=>match l[id]? with
  |some (.row e size els)=>(match eK els k with
   |.agg cs=>⟨.undef,.aP (l.set id (.row e size (els.set k (.agg (setAt cs (off+1) x.cells))))),off+1+x.cells.length<=size/\x.cells.all D.one=true/\k<els.length⟩
   |_=>.bad)
  |_=>.bad
 |_,_=>.bad
def kv(E:cm)(s:TypeId)(f:Nat):T->R
 |.ptr id off=>match E s with|some ⟨_,_,_,.struct fs⟩=>(match fs[f]? with|some p=>if 0<bD E p.2 then .ok (.ptr id (off+p.1))else .bad|none=>.bad)|_=>.bad
 |.bB size els k off=>match E s with|some ⟨_,_,_,.struct fs⟩=>(match fs[f]? with|some p=>if 0<bD E p.2 then .ok (.bB size els k (off+p.1))else .bad|none=>.bad)|_=>.bad
 |.bw id k off=>match E s with|some ⟨_,_,_,.struct fs⟩=>(match fs[f]? with|some p=>if 0<bD E p.2 then .ok (.bw id k (off+p.1))else .bad|none=>.bad)|_=>.bad
 |_=>.bad
def mh(E:cm)(s:TypeId)(f:Nat):T->R
 |.d (
    .agg cs)=>match E s with
  |some ⟨_,_,_,.struct fs⟩=>(match fs[f]? with
   |some p=>(match E p.2 with
    |some i=>if p.1+i.size<=cs.length/\0<i.size then .ok (.d (eM i.desc.agg ((cs.drop p.1).take i.size)))else .bad
    |none=>.bad)
   |none=>.bad)
  |_=>.bad
 |_=>.bad
def dm:T->Option (IntKind×Int)
 |.d (.int k n)=>some (k,n)
 |_=>none
def jV(E:cm)(t:TypeId)(l:List AO)(x i:T):R:=
 match E t,dm i with
 |some ⟨_,_,_,.slice e⟩,some (_,n)=>
  (match x with
  |.d (.slice size els)=>if size=bD E e/\0<size then⟨.bB size els n.toNat 0,.none,0<=n/\n<els.length⟩else .bad
  |.row id=>(match l[id]? with
   |some (.row _ size els)|some (.br _ size els)=>if size=bD E e/\0<size then⟨.bw id n.toNat 0,.none,0<=n/\n<els.length⟩else .bad
   |_=>.bad)
  |_=>.bad)
 |some ⟨_,_,_,.array len e⟩,some (_,n)=>
  (match x with
  |.bB size els k off=>if(E e).isSome=true then⟨.bB size els k (off+n.toNat*bD E e),.none,0<=n/\n<len⟩else .bad
  |_=>.bad)
 |_,_=>.bad
def mapOf(l:List AO):T->Option (List D×List D)
 |.d (.map ks vs)=>some (ks,vs)
 |.map id=>match l[id]? with
  |some (.map ks vs)|some (.dR ks vs)|some (.bz _ _ ks vs _)=>some (ks,vs)
  |_=>none
 |_=>none
def jY(E:cm)(t:TypeId)(l:List AO)(x:T):R:=
 match E t with
 |some ⟨_,_,_,.string⟩=>(match x with |.d (.str s)=>.ok (.d (.int .i64 s.size))|_=>.bad)
 |some ⟨_,_,_,.slice _⟩=>(match x with
  |.d (.slice _ els)=>.ok (.d (.int .i64 els.length))
  |.bC _=>.ok (.d (.int .i64 0))
  |.row id=>(match l[id]? with
   |some (.row _ _ els)|some (.br _ _ els)=>.ok (.d (.int .i64 els.length))
   |_=>.bad)
  |_=>.bad)
 |some ⟨_,_,_,.map _ _⟩=>(match mapOf l x with|some (ks,_)=>.ok (.d (.int .i64 ks.length))|none=>.bad)
 |_=>.bad
def jH(x:T)(lo hi:Option T):R:=
 match x with
 |.d (.slice size els)=>
  (match lo,hi with
  |none,none=>.ok x
  |some a,none=>(match dm a with|some (_,n)=>⟨.d (.slice size (els.drop n.toNat)),.none,0<=n/\n<=els.length⟩|none=>.bad)
  |none,some b=>(match dm b with|some (_,n)=>⟨.d (.slice size (els.take n.toNat)),.none,0<=n/\n<=els.length⟩|none=>.bad)
  |some a,some b=>(match dm a,dm b with
   |some (_,n),some (_,h)=>⟨.d (.slice size ((els.take h.toNat).drop n.toNat)),.none,0<=n/\n<=h/\h<=els.length⟩
   |_,_=>.bad))
 |_=>.bad
def k9(E:cm)(e:TypeId)(l:List AO)(id:Nat)(lo hi:Option T):R:=
 match l[id]? with
 |some (.row _ size els)=>if size=bD E e/\(E e).isSome=true then
   (match lo,hi with
   |some a,none=>(match dm a with|some (_,n)=>⟨.sub id n.toNat els.length,.aP l,0<=n/\n<=els.length⟩|none=>.bad)
   |none,some b=>(match dm b with|some (_,n)=>⟨.sub id 0 n.toNat,.aP l,0<=n/\n<=els.length⟩|none=>.bad)
   |_,_=>.bad)else .bad
 |_=>.bad
def mM(E:cm)(e:TypeId)(l:List AO)(id:Nat)(lo hi:Option T)(mx:T):R:=
 match l[id]?,lo,hi with
 |some (.row _ size els),some a,some b=>(match dm a,dm b,dm mx with
  |some (_,n),some (_,h),some (_,q)=>if size=bD E e/\(E e).isSome=true then⟨.undef,.aP l,0<=n/\n<=h/\h<=q/\q<=els.length⟩else .bad
  |_,_,_=>.bad)
 |_,_,_=>.bad
def lv(E:cm)(t:TypeId)(l:List AO)(x:T):R:=
 match E t,x with
 |some ⟨_,_,_,.slice e⟩,.sub id lo hi=>(match E e,l[id]? with
  |some i,some (.row j size els)=>if size=i.size/\hi=els.length/\0<size then⟨.d (.aN []),.aP (l.set id (.row j size (els.take lo++List.replicate (hi-lo) (eM i.desc.agg i.zero)))),True⟩else .bad
  |_,_=>.bad)
 |_,_=>.bad
def lN(E:cm)(t:TypeId)(l:List AO)(nid:Nat)(a b:T):R:=
 match E t,dm a,dm b with
 |some ⟨_,_,_,.slice e⟩,some (_,n),some (_,c)=>(match E e with
  |some i=>if 0<i.size then⟨.row nid,.aP (l++[.row e i.size (List.replicate n.toNat (eM i.desc.agg i.zero))]),0<=n/\c=n/\n*i.bytes<=140737488355328/\n<=9223372036854775807⟩else .bad
  |none=>.bad)
 |_,_,_=>.bad
def iq(E:cm)(t:TypeId)(l:List AO)(nid:Nat)(s x:T):R:=
 match E t with
 |some ⟨_,_,_,.slice e⟩=>(match E e with
  |some i=>
   (match dx l x with
   |some (.slice k new,l1)=>if(k=i.size\/new.isEmpty)/\0<i.size then
     (match s with
     |.bC _=>⟨.row nid,.aP (l1++[.row e i.size new]),new.length*i.bytes<=140737488355328/\new.length<=9223372036854775807⟩
     |.row id=>(match l1[id]? with
      |some (.row j size els)=>if j=e/\size=i.size/\nid=l1.length then⟨.row nid,.aP (l1.set id .dead++[.row e size (els++new)]),(els.length+new.length)*i.bytes<=140737488355328/\els.length+new.length<=9223372036854775807⟩else .bad
      |_=>.bad)
     |.bJ id _=>(match l1[id]? with
      |some (.br j size els)=>if j=e/\size=i.size/\nid=l1.length then⟨.bJ nid (.slice size (els++new)),.aP (l1.set id .dead++[.br e size (els++new)]),(els.length+new.length)*i.bytes<=140737488355328/\els.length+new.length<=9223372036854775807⟩else .bad
      |_=>.bad)
     |_=>.bad)else .bad
   |_=>.bad)
  |none=>.bad)
 |_=>.bad
def sY(C:xY)(f:FuncId)(l:List AO)(ts:List T):R:=
 match fh l ts with
 |some (ds,l')=>(match C f ds with
  |some (x,ob)=>⟨.d x,if ts.all (nM l)then .none else .aP l',ob⟩
  |none=>.bad)
 |none=>.bad
def nI(c a b:T):R:=
 match c with
 |.d (.bool c)=>
  let f:Bool->T->Option (Bool×Prop):=λj t=>match t with
   |.d (.bool x)=>some (x,True)
   |.cond pc (.d (.bool x))=>some (x,c=j->holds pc)
   |_=>none
  (match f true a,f false b with
  |some (x,p),some (y,q)=>⟨.d (.bool (if c then x else y)),.none,p/\q⟩
  |some (x,p),none=>⟨.d (.bool x),.none,c=true/\p⟩
  |none,some (y,q)=>⟨.d (.bool y),.none,c=false/\q⟩
  |none,none=>.bad)
 |_=>.bad
def yI(E:cm)(t:TypeId):Nat:=match E t with|some ⟨_,_,_,.slice e⟩=>bD E e|_=>0
def typed(E:cm)(t:TypeId):T->T
 |.bC _=>.bC (yI E t)
 |x=>x
def fM(E:cm):List TypeId->List T->List T
 |t::ts,x::xs=>typed E t x::fM E ts xs
 |_,xs=>xs
structure Env where
 E:cm
 C:xY
 jA:TypeId->Option (List Lf)
 F:Cc:=λ_ _ _=>none
 P:Program
 inl:FuncId->Bool:=λ_=>false
 sub:Bool:=false
def qM(V:Env)(g:FuncId)(l:List AO)(ts:List T):R:=
 match V.F g ts l with
 |some ⟨t,l',ob⟩=>⟨t,.aP l',ob⟩
 |none=>sY V.C g l ts
def eu(n:Int):List D->Nat->Option Nat
 | [],_=>none
 |.int _ a::r,i=>if n=a then some i else eu n r (i+1)
 |_::_,_=>none
def np(k:IntKind)(B:List D):Bool:=B.all λd=>match d with |.int j _=>j == k|_=>false
def kJ(E:cm)(t:TypeId):Option (IntKind×TI):=match E t with
 |some ⟨_,_,_,.map kt e⟩=>match E kt,E e with
  |some ⟨_,_,_,.dS kk⟩,some i=>some (kk,i)
  |_,_=>none
 |_=>none
def rD(E:cm)(t:TypeId)(l:List AO)(x k:T)(ok:Bool):R:=
 match kJ E t,mapOf l x,dm k with
 |some (kk,i),some (ks,vs),some (B,n)=>
  if kk=B then
   match eu n ks 0 with
   |some j=>⟨if ok then .d (.aN [eK vs j,.bool true])else .d (eK vs j),.none,np kk ks=true⟩
   |none=>⟨if ok then .d (.aN [eM i.desc.agg i.zero,.bool false])else .d (eM i.desc.agg i.zero),.none,np kk ks=true⟩
  else .bad
 |_,_,_=>.bad
def mu(E:cm)(t:TypeId)(l:List AO)(x k v:T):R:=
 match kJ E t,x,dm k,gJ v with
 |some (kk,_),.map id,some (B,n),some d=>
  if kk=B then
   match l[id]? with
   |some (.map ks vs)=>⟨.undef,.aP (l.set id (match eu n ks 0 with|some j=>.map ks (vs.set j d)|none=>.map (ks++[.int kk n]) (vs++[d]))),np kk ks=true⟩
   |_=>.bad
  else .bad
 |_,_,_,_=>.bad
def nz(E:cm)(t:TypeId)(l:List AO)(x k:T):R:=
 match kJ E t,x,dm k with
 |some (kk,_),.map id,some (B,n)=>
  if kk=B then
   match l[id]? with
   |some (.map ks vs)=>⟨.d (.aN []),.aP (l.set id (match eu n ks 0 with|some j=>.map (ks.eraseIdx j) (vs.eraseIdx j)|none=>.map ks vs)),np kk ks=true⟩
   |_=>.bad
  else .bad
 |_,_,_=>.bad
def yq(s:ByteArray)(n:Nat):Int:=((s[n]?).getD 0).toNat
def tL(E:cm)(t:TypeId)(x i:T):R:=
 match E t,x,dm i with
 |some ⟨_,_,_,.string⟩,.d (.str s),some (_,n)=>⟨.d (.int .u8 (yq s n.toNat)),.none,0<=n/\n<s.size⟩
 |_,_,_=>.bad
def Nj:Value->D
 |.int k n=>.int k n
 |_=>.dX
def xE(s:ByteArray):List D:=(Conv.runesFrom s s.size 0 #[]).toList.map Nj
def pE(E:cm)(j t:TypeId)(x:T):R:=
 match E j,E t,x with
 |some ⟨_,_,_,.dS _⟩,some ⟨_,_,_,.dS k⟩,.d (.int _ n)=>.ok (.d (.int k (k.wrap n)))
 |some ⟨_,_,_,.string⟩,some ⟨_,_,_,.slice e⟩,.d (.str s)=>(match E e with
  |some ⟨1,_,_,.dS .i32⟩=>⟨.d (.slice 1 (xE s)),.none,s.size<=16777216⟩
  |_=>.bad)
 |_,_,_=>.bad
def xw(E:cm)(t:TypeId)(l:List AO)(nid:Nat)(x:T):R:=match E t,x with
 |some ⟨_,_,_,.map _ _⟩,.map id=>(match dx l (.map id)with
  |some (.map ks vs,l')=>⟨.ptr nid 0,.aP (l'++[.iter ks vs []]),True⟩
  |_=>.bad)
 |some ⟨_,_,_,.map _ _⟩,.d (.map ks vs)=>⟨.ptr nid 0,.aP (l++[.iter ks vs []]),True⟩
 |_,_=>.bad
def vI(l:List AO)(x:T):R:=match x with
 |.ptr id 0=>(match l[id]? with
  |some (.iter ks vs done)=>(match done.getLast? with
   |some i=>(match ks[i]?,vs[i]? with|some k,some v=>.ok (.d (.aN [k,v]))|_,_=>.bad)
   |none=>.bad)
  |_=>.bad)
 |_=>.bad
def tR:D->D->Bool
 |.agg a,.agg b=>di a b
 |_,_=>false
def jz(k:D):List D->Nat->Option Nat
 | [],_=>none
 |a::r,i=>if tR k a=true then some i else jz k r (i+1)
def pR(kk:IntKind):D->Bool
 |.int j _=>j == kk
 |_=>false
def oF(n:Nat)(kk:IntKind):D->Bool
 |.agg cs=>decide (cs.length=n)&&cs.all (pR kk)
 |_=>false
def wj(n:Nat)(kk:IntKind)(j:List D):Bool:=j.all (oF n kk)
def G7:List (Nat×TypeId)->Bool
 | (o,t)::p::r=>decide ((o,t)::p::r=(List.range (r.length+2)).map λj=>(j,t))
 |_=>false
def zj(E:cm)(k:TypeId):Option (Nat×IntKind):=match E k with
 |some ⟨_,_,_,.array n j⟩=>(match E j with|some ⟨_,_,_,.dS kk⟩=>some (n,kk)|_=>none)
 |some ⟨_,_,_,.struct fs⟩=>(match fs with
  | (_,t0)::_=>(match E t0 with
   |some ⟨_,_,_,.dS kk⟩=>if G7 fs=true then some (fs.length,kk)else none
   |_=>none)
  | []=>none)
 |_=>none
def nB(E:cm)(t:TypeId):Option (Nat×IntKind×TI):=match E t with
 |some ⟨_,_,_,.map kt e⟩=>match zj E kt,E e with
  |some (n,kk),some i=>some (n,kk,i)
  |_,_=>none
 |_=>none
def tY(E:cm)(t:TypeId)(l:List AO)(x k:T)(ok:Bool):R:=
 match nB E t,mapOf l x,k with
 |some (n,kk,i),some (ks,vs),.d B=>
  if oF n kk B=true then
   match jz B ks 0 with
   |some j=>⟨if ok then .d (.aN [eK vs j,.bool true])else .d (eK vs j),.none,wj n kk ks=true⟩
   |none=>⟨if ok then .d (.aN [eM i.desc.agg i.zero,.bool false])else .d (eM i.desc.agg i.zero),.none,wj n kk ks=true⟩
  else .bad
 |_,_,_=>.bad
def nA(E:cm)(t:TypeId)(l:List AO)(x k v:T):R:=
 match nB E t,x,k,gJ v with
 |some (n,kk,_),.map id,.d B,some d=>
  if oF n kk B=true then
   match l[id]? with
   |some (.map ks vs)=>⟨.undef,.aP (l.set id (match jz B ks 0 with|some j=>.map ks (vs.set j d)|none=>.map (ks++[B]) (vs++[d]))),wj n kk ks=true⟩
   |_=>.bad
  else .bad
 |_,_,_,_=>.bad
def sg(E:cm)(t:TypeId)(l:List AO)(x k v:T):R:=if(nB E t).isSome=true then nA E t l x k v else mu E t l x k v
def pU(E:cm)(t:TypeId)(l:List AO)(x k:T)(ok:Bool):R:=if(nB E t).isSome=true then tY E t l x k ok else rD E t l x k ok
def sv(E:cm)(n:Nat)(e:TypeId)(cs:List D):R:=if bD E e=1/\(E e).isSome=true/\cs.length=n/\n<=16777216/\cs.all D.one=true then .ok (.d (.slice 1 cs))else .bad
def aX(
      V:Env)(ρ:Operand->T)(l:List AO)(nid:Nat)(o:Oper):R:=
 match o.op with
 |.move x |.assign x=>.ok (typed V.E o.type (ρ x))
 |.pick c a b=>nI (ρ c) (ρ a) (ρ b)
 |.box e x=>⟨.ptr nid 0,.new (.var e (bx (ρ x))),((bx (ρ x)).all T.fS)=true⟩
 |.alloc e=>(match V.E e with|some i=>⟨.ptr nid 0,.new (.var e (i.zero.map iO)),True⟩|none=>.bad)
 |.load t a=>fo V.E t l (unbox (ρ a))
 |.store t a x=>if(bx (ρ x)).length=bD V.E t/\0<bD V.E t then mL l (ρ a) (ρ x)else .bad
 |.fieldAddr s x f=>kv V.E s f (unbox (ρ x))
 |.field s x f=>mh V.E s f (ρ x)
 |.binOp B ty x y _=>(match ρ x,ρ y with |.d a,.d b=>kN (eS V.jA B ty a b)|_,_=>.bad)
 |.unOp B _ x=>(match ρ x with |.d a=>kN (ve B a)|_=>.bad)
 |.indexAddr t x i=>jV V.E t l (unbox (ρ x)) (ρ i)
 |.slice t x lo hi none=>(match V.E t,ρ x with
  |some ⟨_,_,_,.slice e⟩,.d (.slice size els)=>if size=bD V.E e/\(V.E e).isSome=true then jH (.d (.slice size els)) (lo.map ρ) (hi.map ρ)else .bad
  |some ⟨_,_,_,.slice e⟩,.row id=>if V.sub=true then k9 V.E e l id (lo.map ρ) (hi.map ρ)else(match dx l (.row id)with
   |some (.slice size els,l')=>if size=bD V.E e/\(V.E e).isSome=true then⟨(jH (.d (.slice size els)) (lo.map ρ) (hi.map ρ)).t,.aP l',(jH (.d (.slice size els)) (lo.map ρ) (hi.map ρ)).ob⟩else .bad
   |_=>.bad)
  |some ⟨_,_,_,.array n e⟩,.d (.box (.agg cs))=>if lo.isNone=true/\hi.isNone=true then sv V.E n e cs else .bad
  |_,_=>.bad)
 |.slice t x lo hi (some mx)=>(match V.E t,ρ x with
  |some ⟨_,_,_,.slice e⟩,.row id=>mM V.E e l id (lo.map ρ) (hi.map ρ) (ρ mx)
  |_,_=>.bad)
 |.build t parts=>(match V.E t with
  |some ⟨_,_,z,.struct fs⟩=>if fs.all (λf=>(V.E f.2).isSome)=true then(match lF (se V.E fs) (z.map iO) (parts.toList.map λp=>(p.1,ρ p.2))with|some cs=>.ok (gk true cs)|none=>.bad)else .bad
  |some ⟨_,_,z,.array _ e⟩=>if(V.E e).isSome=true then(match lF (λi=>some (i*bD V.E e,bD V.E e)) (z.map iO) (parts.toList.map λp=>(p.1,ρ p.2))with|some cs=>.ok (gk true cs)|none=>.bad)else .bad
  |_=>.bad)
 |.buildSlice t len parts=>(match V.E t with
  |some ⟨_,_,_,.slice e⟩=>
   if(
     V.E e).isSome=true/\0<bD V.E e then
    (if len=0 then⟨.row nid,.aP (l++[.row e (bD V.E e) []]),parts.toList.isEmpty=true⟩
    else(match parts.toList.mapM (λp=>gJ (ρ p.2))with
     |some ds=>if parts.toList.map (·.1)=List.range len/\len*bD V.E e<=16777216/\ds.all (λd=>d.cells.length == bD V.E e&&d.cells.all D.one)=true then .ok (.d (.slice (bD V.E e) ds))else .bad
     |none=>(match fh l (parts.toList.map λp=>ρ p.2)with
      |some (ds,l')=>if parts.toList.map (·.1)=List.range len/\len*bD V.E e<=16777216/\ds.all (λd=>d.cells.length == bD V.E e&&d.cells.all D.one)=true then⟨.d (.slice (bD V.E e) ds),.aP l',True⟩else .bad
      |none=>.bad)))
   else .bad
  |_=>.bad)
 |.extract x i=>(match ρ x with
  |.d (.aN ds)=>(match ds[i]? with|some d=>.ok (.d d)|none=>.bad)
  |.aN ts=>(match ts[i]? with|some t=>.ok t|none=>.bad)
  |_=>.bad)
 |.call c=>(match c.callee with
  |.value f=>(match ρ f with
   |.d (.fn g)=>qM V g l (fM V.E c.argTypes.toList (c.args.toList.map ρ))
   |.d (.aD g ds)=>qM V g l (fM V.E c.argTypes.toList (c.args.toList.map ρ)++ds.map .d)
   |_=>.bad)
  |.builtin .len=>(match c.args.toList,c.argTypes.toList with| [x],[t]=>jY V.E t l (ρ x)|_,_=>.bad)
  |.builtin .append=>(match c.args.toList,c.argTypes.toList with
   | [s,x],[t,t']=>if t=t' then iq V.E t l nid (ρ s) (ρ x)else .bad
   |_,_=>.bad)
  |.builtin .clear=>(match c.args.toList,c.argTypes.toList with| [x],[t]=>lv V.E t l (ρ x)|_,_=>.bad)
  |.builtin .delete=>(match c.args.toList,c.argTypes.toList with| [x,k],[t,_]=>nz V.E t l (ρ x) (ρ k)|_,_=>.bad)
  |.builtin .max=>(match c.args.toList.map ρ with| [.d (.int k a),.d (.int j b)]=>if k=j then .ok (.d (.int k (max a b)))else .bad|_=>.bad)
  |.builtin .min=>(match c.args.toList.map ρ with| [.d (.int k a),.d (.int j b)]=>if k=j then .ok (.d (.int k (min a b)))else .bad|_=>.bad)
  |_=>.bad)
 |.makeMap _ none=>⟨.map nid,.aP (l++[.map [] []]),True⟩
 |.mapUpdate t m k x |.insert t m k x=>sg V.E t l (ρ m) (ρ k) (ρ x)
 |.lookup t x k ok=>pU V.E t l (ρ x) (ρ k) ok
 |.index t x i=>tL V.E t (ρ x) (ρ i)
 |.convert F t x=>pE V.E F t (ρ x)
 |.makeFunc (.func g) first caps=>if first.isEmpty=true then .ok (mf g (caps.toList.map ρ))else .bad
 |.range t x=>xw V.E t l nid (ρ x)
 |.entry x=>vI l (ρ x)
 |.makeSlice t a b=>lN V.E t l nid (ρ a) (ρ b)
 |_=>.bad
end Go.ag
namespace Go.ag
open Go Go.RowKit
variable [bq]
def wH{B:Nat}{w w':World}{e:TypeId}{size n:Nat}{v:Value}{xs:List Value}(h:w.ownsRow B e size v n xs)(G:∀b,own v=some b->w'.heap[b]?=w.heap[b]?):w'.ownsRow B e size v n xs:=by
 refine⟨h.1,?_⟩
 rcases h.2 with F| ⟨g,cap,cur,rfl,j,k,rest⟩
 ·exact .inl F
 exact .inr ⟨g,cap,cur,rfl,j,(G g rfl).trans k,rest⟩
def du.zB{w:World}{I:ay}{B:Nat}{e:TypeId}{size n:Nat}{v:Value}{xs:List Value}{b:Nat}(h:du w I)(k:w.ownsRow B e size v n xs)(j:own v=some b):¬I.df b:=by
 rcases k.2 with ⟨rfl,_⟩| ⟨g,G,cur,rfl,_,F,_⟩
 ·cases j
 simp only[own,c4]at j
 subst j
 exact h.lP F (by simp)
structure Gq(w w':World)(I J:ay)(m m':Nat->Value)(l l':List AO):Prop where
 stay:∀b u,I.cell b 0=some u->(∀q,cI l q=true->own (m q)≠some b)->w'.heap[b]?=w.heap[b]?/\J.cell b=I.cell b/\J.mp b=I.mp b
 br:∀q b,cI l' q=true->own (m' q)=some b->(∃q',cI l q'=true/\own (m q')=some b)\/I.cell b 0=none
def zb{l:List AO}{id q:Nat}{o:AO}(h:cI (l.set id o) q=true):cI l q=true\/q=id/\o.cI=true:=by
 unfold cI at h⊢
 rw[e4]at h
 by_cases j:id=q
 ·subst j;rw[if_pos rfl]at h
  split at h
  ·exact .inr ⟨rfl,by simpa using h⟩
  simp at h
 rw[if_neg j]at h;exact .inl h
def tO{l:List AO}{q:Nat}{o:AO}(h:cI (l++[o]) q=true):q<l.length/\cI l q=true\/q=l.length/\o.cI=true:=by
 unfold cI at h⊢
 rcases Nat.lt_trichotomy q l.length with hq|hq|hq
 ·rw[e1 hq]at h;exact .inl ⟨hq,h⟩
 ·subst hq;simp at h;exact .inr ⟨rfl,h⟩
 rw[hF (by simp;omega)]at h;simp at h
theorem Gq.set{w w':World}{I:ay}{m:Nat->Value}{l:List AO}{id:Nat}{o':AO}(F:∀b u,I.cell b 0=some u->w'.heap[b]?=w.heap[b]?)(k:o'.cI=true->∀b,own (m id)=some b->I.cell b 0=none):Gq w w' I I m m l (l.set id o'):=⟨λb u G _=>⟨F b u G,rfl,rfl⟩,λq b B j=>(zb B).elim (λh=>.inl ⟨q,h,j⟩) λh=>.inr (k h.2 b (h.1▸j))⟩
def Gq.push{w w':World}{I:ay}{m:Nat->Value}{l:List AO}{v:Value}{o':AO}(G:∀b u,I.cell b 0=some u->w'.heap[b]?=w.heap[b]?)(B:o'.cI=false):Gq w w' I I m (λk=>if k=l.length then v else m k) l (l++[o']):=⟨λb u M _=>⟨G b u M,rfl,rfl⟩,λq b F j=>(tO F).elim (λh=>.inl ⟨q,h.2,by simpa [Nat.ne_of_lt h.1]using j⟩) λh=>by rw[B]at h;cases h.2⟩
theorem Gq.id{w:World}{I:ay}{m:Nat->Value}{l l':List AO}(h:∀q,cI l' q=true->cI l q=true):Gq w w I I m m l l':=⟨λ_ _ _ _=>⟨rfl,rfl,rfl⟩,λq b k j=>.inl ⟨q,h q k,j⟩⟩
def jj.cM{B:Nat}{w w':World}{I J:ay}{v:Value}{e size:Nat}{els:List D}(ab:∀v d,Rd I v d->Rd J v d)(h:∀b,own v=some b->w'.heap[b]?=w.heap[b]?/\J.cell b=I.cell b/\J.mp b=I.mp b)(k:jj B w I v e size els):jj B w' J v e size els:=by
 obtain⟨xs,O,U,Y,Z⟩:=k
 refine⟨xs,wH O (λb F=>(h b F).1),U,λj x y G ad=>ab _ _ (Y j x y G ad),λb F=>?_⟩
 obtain⟨_,M,N⟩:=h b F
 obtain⟨ae,af,ag⟩:=Z b F
 exact⟨N.trans ae,λj x G=>by rw[M];exact af j x G,λj aa=>by rw[M];exact ag j aa⟩
def jj.mV{B:Nat}{w:World}{I:ay}{v:Value}{e size b:Nat}{els:List D}(N:0<size)(M:els≠[])(k:jj B w I v e size els)(G:own v=some b):∃u,I.cell b 0=some u:=by
 obtain⟨xs,j,O,U,F⟩:=k
 have:0<xs.length:=by rw[j.1];exact abC (List.length_pos_iff.2 M) N
 exact⟨_,(F b G).2.1 0 _ (c3 this)⟩
def x8.cM{B:Nat}{w w':World}{I J:ay}{m m':Nat->Value}{l l':List AO}{e size:Nat}{F:ME}{vs:List D}{U:Option Nat}(ai:∀v d,Rd I v d->Rd J v d)(ae:Gq w w' I J m m' l l')(aj:0<size)(al:F.1.size=vs.length)(k:x8 B w I m l e size F vs U):x8 B w' J m' l' e size F vs U:=by
 obtain⟨aa,ab,ag,ad⟩:=k
 have mV:∀i,i<F.1.size->U≠some i->∃u,I.cell (aa i) 0=some u:=λi hi j=>by
  obtain⟨els,_,Y,M,Z⟩:=ab i F.1[i] vs[i] j (e7 hi) (c3 (by omega))
  exact Z.mV aj Y M
 refine⟨aa,λi en d j af ah=>?_,ag,λq i N hi j G=>?_⟩
 ·obtain⟨els,ak,Y,M,Z⟩:=ab i en d j af ah
  refine⟨els,ak,Y,M,Z.cM ai λb G=>?_⟩
  rw[M]at G;injection G with G;subst G
  have hi:i<F.1.size:=(e6.1 af).1
  obtain⟨u,O⟩:=mV i hi j
  exact ae.stay _ u O λq N=>ad q i N hi j
 rcases ae.br q _ N G with ⟨q',k1,k2⟩|hn
 ·exact ad q' i k1 hi j k2
 obtain⟨u,O⟩:=mV i hi j;rw[O]at hn;cases hn
def dW.gm{B:Nat}{w:World}{I:ay}{m m':Nat->Value}{l l':List AO}{v:Value}{e size:Nat}{k vs:List D}{F:Option Nat}(ag:∀q,cI l' q=true->∃j,cI l j=true/\own (m j)=own (m' q))(h:dW B w I m l v (.bz e size k vs F)):dW B w I m' l' v (.bz e size k vs F):=by
 obtain⟨b,M,N,O,U,Y,Z,aa,ab,ad,ae,G,aj,ak,al⟩:=h
 refine⟨b,M,N,O,U,Y,Z,aa,ab,ad,ae,G,aj,ak,λq i ai hi ah af=>?_⟩
 obtain⟨j,an,ao⟩:=ag q ai
 exact al j i an hi ah (ao.trans af)
def dW.KD{B:Nat}{w w':World}{I J:ay}{m m':Nat->Value}{l l':List AO}{v:Value}{o:AO}(N:Le I m l J m' l')(ag:∀b,own v=some b->w'.heap[b]?=w.heap[b]?)(af:∀b,own v=some b->J.cell b=I.cell b/\J.mp b=I.mp b)(ar:o.tP=false)(h:dW B w I m l v o):dW B w' J m' l' v o:=by
 cases o with
 |bz e size an vs aB=>cases ar
 |dead=>trivial
 |var ty cs=>
  obtain⟨b,vs,rfl,U,Y,M,F,ab⟩:=h
  refine⟨b,vs,rfl,U,(ag b rfl).trans Y,M,λi x t ae ht=>⟨(F i x t ae ht).1.mono N,(F i x t ae ht).2⟩,?_⟩
  obtain⟨G,O⟩:=af b rfl
  exact⟨λo=>by rw[G];exact ab.1 o,O.trans ab.2⟩
 |row e size els=>
  obtain⟨xs,U,Y,M,F⟩:=h
  refine⟨xs,wH U ag,Y,λj x y ae al=>(M j x y ae al).mono N.dg,λb ai=>?_⟩
  obtain⟨G,O⟩:=af b ai
  exact⟨λo=>by rw[G];exact(F b ai).1 o,O.trans (F b ai).2⟩
 |br e size els=>
  obtain⟨xs,U,Y,M,F⟩:=h
  refine⟨xs,wH U ag,Y,λj x y ae al=>(M j x y ae al).mono N.dg,λb ai=>?_⟩
  obtain⟨G,O⟩:=af b ai
  obtain⟨av,aw,ax⟩:=F b ai
  exact⟨O.trans av,λj x ae=>by rw[G];exact aw j x ae,λj aq=>by rw[G];exact ax j aq⟩
 |map an vs=>
  obtain⟨b,aj,rfl,U,Y,M,F,ab,ad,ah⟩:=h
  obtain⟨G,O⟩:=af b rfl
  exact⟨b,aj,rfl,U,dZ.to (ag b rfl) Y,M,F,λi e d aa Z=>(ab i e d aa Z).mono N.dg,λi e d aa Z=>(ad i e d aa Z).mono N.dg,λo=>by rw[G];exact ah.1 o,O.trans ah.2⟩
 |dR an vs=>
  obtain⟨b,aj,rfl,U,Y,M,F,ab,ad,ah,ak⟩:=h
  obtain⟨G,O⟩:=af b rfl
  exact⟨b,aj,rfl,U,dZ.to (ag b rfl) Y,M,F,λi e d aa Z=>(ab i e d aa Z).mono N.dg,λi e d aa Z=>(ad i e d aa Z).mono N.dg,λo=>by rw[G];exact ah o,O.trans ak⟩
 |iter an vs done=>
  obtain⟨b,az,aj,seen,rfl,U,Y,M,F,ab,ad,ah,ak,ao⟩:=h
  obtain⟨G,O⟩:=af b rfl
  exact⟨b,az,aj,seen,rfl,U,(ag b rfl).trans Y,⟨λr au=>N.dg.mp _ _ (M.1 r au),M.2⟩,F,ab,λi e d aa Z=>(ad i e d aa Z).mono N.dg,λi e d aa Z=>(ah i e d aa Z).mono N.dg,ak,λo=>by rw[G];exact ao.1 o,O.trans ao.2⟩
 |frame base vals t=>exact⟨h.1,hJ h.2.1 N.len,λk=>(h.2.2 k).mono (N.take base)⟩
 |loop base n ps bc aA t st cY=>
  obtain⟨b,r,rfl,U,Y,M,F,ab,ad⟩:=h
  obtain⟨G,O⟩:=af b rfl
  exact⟨b,r,rfl,U,(ag b rfl).trans Y,M,hJ F N.len,λk=>(ab k).mono (N.take base),λo=>by rw[G];exact ad.1 o,O.trans ad.2⟩
def dW.cM{B:Nat}{w w':World}{I J:ay}{m m':Nat->Value}{l l':List AO}{v:Value}{o:AO}(j:Le I m l J m' l')(Y:∀b,own v=some b->w'.heap[b]?=w.heap[b]?)(O:∀b,own v=some b->J.cell b=I.cell b/\J.mp b=I.mp b)(aj:Gq w w' I J m m' l l')(h:dW B w I m l v o):dW B w' J m' l' v o:=by
 cases U:o.tP with
 |false=>exact h.KD j Y O U
 |true=>
  cases o with
  |bz e size ak vs al=>
   obtain⟨b,ab,rfl,ad,ae,af,G,ag,ah,M,N,ai⟩:=h
   obtain⟨Z,aa⟩:=O b rfl
   exact⟨b,ab,rfl,ad,dZ.to (Y b rfl) ae,af,G,λi e d F k=>(ag i e d F k).mono j.dg,λi e d F k=>(ah i e d F k).mono j.dg,⟨λo=>by rw[Z];exact M.1 o,aa.trans M.2⟩,N,ai.cM (λ_ _ h=>h.mono j.dg) aj N G⟩
  |_=>cases U
def dW.lt{B:Nat}{w:World}{I:ay}{m:Nat->Value}{l:List AO}{v:Value}{o:AO}(h:dW B w I m l v o)(Z:o ≠ .dead){b:Nat}(j:own v=some b):b<w.heap.size/\B<=b:=by
 cases o with
 |dead=>exact absurd rfl Z
 |var ty cs=>
  obtain⟨G,vs,rfl,k,F,_⟩:=h
  simp only[own,c4]at j
  subst j
  exact⟨(e6.1 F).1,k⟩
 |row e size els=>
  obtain⟨xs,k,_⟩:=h
  rcases k.2 with ⟨rfl,_⟩| ⟨g,Y,cur,rfl,N,O,_⟩
  ·simp[own]at j
  simp only[own,c4]at j
  subst j
  exact⟨(e6.1 O).1,N⟩
 |br e size els=>
  obtain⟨xs,k,_⟩:=h
  rcases k.2 with ⟨rfl,_⟩| ⟨g,Y,cur,rfl,N,O,_⟩
  ·simp[own]at j
  simp only[own,c4]at j
  subst j
  exact⟨(e6.1 O).1,N⟩
 |map U vs=>
  obtain⟨G,M,rfl,k,F,_⟩:=h
  simp only[own,c4]at j
  subst j
  exact⟨(e6.1 F.1).1,k⟩
 |dR U vs=>
  obtain⟨G,M,rfl,k,F,_⟩:=h
  simp only[own,c4]at j
  subst j
  exact⟨(e6.1 F.1).1,k⟩
 |iter U vs done=>
  obtain⟨G,ab,M,seen,rfl,k,F,_⟩:=h
  simp only[own,c4]at j
  subst j
  exact⟨(e6.1 F).1,k⟩
 |bz e size U vs ad=>
  obtain⟨G,M,rfl,k,F,_⟩:=h
  simp only[own,c4]at j
  subst j
  exact⟨(e6.1 F.1).1,k⟩
 |frame base vals t=>rw[h.1]at j;cases j
 |loop base n ps bc aa t st cY=>
  obtain⟨G,r,rfl,k,F,_⟩:=h
  simp only[own,c4]at j
  subst j
  exact⟨(e6.1 F).1,k⟩
def dW.G8{B:Nat}{w:World}{I:ay}{m:Nat->Value}{l:List AO}{v:Value}{o:AO}(h:dW B w I m l v o)(Z:o ≠ .dead){b:Nat}(j:own v=some b):o.cI=true\/I.cell b 0=none:=by
 cases o with
 |dead=>exact absurd rfl Z
 |br e size els=>exact .inl rfl
 |row e size els=>obtain⟨xs,_,_,_,N⟩:=h;exact .inr ((N b j).1 0)
 |frame base vals t=>rw[h.1]at j;cases j
 |var ty cs=>obtain⟨k,vs,rfl,_,_,_,_,O⟩:=h;injection j with j;subst j;exact .inr (O.1 0)
 |map M vs=>obtain⟨k,G,rfl,_,_,_,_,_,_,F⟩:=h;injection j with j;subst j;exact .inr (F.1 0)
 |dR M vs=>obtain⟨k,G,rfl,_,_,_,_,_,_,F,_⟩:=h;injection j with j;subst j;exact .inr (F 0)
 |iter M vs done=>obtain⟨k,ab,G,seen,rfl,_,_,_,_,_,_,_,_,Y⟩:=h;injection j with j;subst j;exact .inr (Y.1 0)
 |bz e size M vs ad=>obtain⟨k,G,rfl,_,_,_,_,_,_,F,_⟩:=h;injection j with j;subst j;exact .inr (F.1 0)
 |loop base n ps bc aa t st cY=>obtain⟨k,r,rfl,_,_,_,_,_,U⟩:=h;injection j with j;subst j;exact .inr (U.1 0)
def dW.lP{B:Nat}{w:World}{I:ay}{m:Nat->Value}{l:List AO}{v:Value}{o:AO}(h:dW B w I m l v o)(G:du w I)(U:o ≠ .dead){b:Nat}(j:own v=some b):¬I.df b:=by
 cases o with
 |dead=>exact absurd rfl U
 |var ty cs=>
  obtain⟨M,vs,rfl,F,k,_⟩:=h
  simp only[own,c4]at j
  subst j
  exact G.lP k (by simp)
 |row e size els=>obtain⟨xs,F,_⟩:=h;exact G.zB F j
 |br e size els=>obtain⟨xs,F,_⟩:=h;exact G.zB F j
 |map O vs=>
  obtain⟨M,N,rfl,F,k,_⟩:=h
  simp only[own,c4]at j
  subst j
  exact G.lP k.1 (by simp)
 |dR O vs=>
  obtain⟨M,N,rfl,F,k,_⟩:=h
  simp only[own,c4]at j
  subst j
  exact G.lP k.1 (by simp)
 |iter O vs done=>
  obtain⟨M,Z,N,seen,rfl,F,k,_⟩:=h
  simp only[own,c4]at j
  subst j
  exact G.lP k (by simp)
 |bz e size O vs aa=>
  obtain⟨M,N,rfl,F,k,_⟩:=h
  simp only[own,c4]at j
  subst j
  exact G.lP k.1 (by simp)
 |frame base vals t=>rw[h.1]at j;cases j
 |loop base n ps bc Y t st cY=>
  obtain⟨M,r,rfl,F,k,_⟩:=h
  simp only[own,c4]at j
  subst j
  exact G.lP k (by simp)
def bM{l:List AO}{id:Nat}:alive l id=true↔∃o,l[id]?=some o/\o ≠ .dead:=by
 unfold alive isVar isRow
 cases h:l[id]? with
 |none=>simp
 |some o=>cases o<;>simp[AO.isVar,AO.isRow]
section
variable {w0 w w':World}{I0 I J:ay}{m:Nat->Value}{l:List AO}
theorem aH.call(h:aH w0 I0 w I m l)(F:dN w.heap.size w w')(B:fD w.heap.size I J)(Y:du w' J):aH w0 I0 w' J m l/\Le I m l J m l:=by
 have O:Le I m l J m l:=⟨B.le (λb j=>h.sat.kI j),eb _,λ_ _ k=>⟨k,rfl⟩,λ_ _ k=>⟨k,rfl⟩,λ_ _ _ els _ k=>⟨els,k⟩⟩
 refine⟨⟨h.below.trans (F.mono h.below.size),Y,h.ext.trans B h.below.size,λid o M=>?_,h.sep⟩,O⟩
 by_cases j:o=.dead
 ·subst j;trivial
 exact(h.obj id o M).cM O (λb G=>F.block b ((h.obj id o M).lt j G).1) (λb G=>⟨B.cell b ((h.obj id o M).lt j G).1,B.mp b ((h.obj id o M).lt j G).1⟩) ⟨λb u N _=>⟨F.block b (h.sat.lt N),B.cell b (h.sat.lt N),B.mp b (h.sat.lt N)⟩,λq b U F=>.inl ⟨q,U,F⟩⟩
def aP(m:Nat->Value)(id:Nat)(v:Value):Nat->Value:=λk=>if k=id then v else m k
def dM(m:Nat->Value)(id:Nat)(v:Value):aP m id v id=v:=by simp[aP]
def bW(m:Nat->Value){id k:Nat}(v:Value)(h:k≠id):aP m id v k=m k:=by simp[aP,h]
theorem Le.new{nid:Nat}{o:AO}{v:Value}(M:l[nid]?=some .dead)(N:o.isRow=false):Le I m l I (aP m nid v) (l.set nid o):=by
 have B:∀id,id≠nid->(l.set nid o)[id]?=l[id]?:=λid h=>by rw[e4];simp[hS h]
 have O:nid<l.length:=(c5.1 M).1
 have F:(l.set nid o)[nid]?=some o:=by rw[e4];simp[O]
 refine⟨.refl I,by simp,λid G k=>?_,λid G j=>?_,λid e size els G hh=>?_⟩
 ·have:id≠nid:=by rintro rfl;unfold isVar at k;rw[M]at k;simp[AO.isVar]at k
  refine⟨?_,bW m v this⟩
  unfold isVar;rw[B id this];exact k
 ·by_cases h:id=nid
  ·subst h;unfold isRow at j;rw[F]at j;simp[N]at j
  refine⟨?_,bW m v h⟩
  unfold isRow at j⊢;rw[B id h]at j;exact j
 by_cases h:id=nid
 ·subst h;rw[F]at hh;rcases hh with hh|hh<;>(injection hh with hh;subst hh;simp[AO.isRow]at N)
 rw[B id h]at hh;exact⟨els,hh⟩
theorem aH.alloc(h:aH w0 I0 w I m l)(ob:Obj){nid:Nat}{o:AO}{v:Value}(ag:l[nid]?=some .dead)(aq:o.isRow=false)(ai:own v=some w.heap.size)(ar:dW w0.heap.size (w.alloc ob) I (aP m nid v) (l.set nid o) v o):aH w0 I0 (w.alloc ob) I (aP m nid v) (l.set nid o):=by
 have an:Le I m l I (aP m nid v) (l.set nid o):=Le.new ag aq
 have ao:nid<l.length:=(c5.1 ag).1
 have ae:(l.set nid o)[nid]?=some o:=by rw[e4];simp[ao]
 have Y:∀id,id≠nid->(l.set nid o)[id]?=l[id]?:=λid h=>by rw[e4];simp[hS h]
 have ah:∀id,id≠nid->alive (l.set nid o) id=true->∀b,own (m id)=some b->b<w.heap.size:=by
  intro id O ak b M
  obtain⟨o',k,B⟩:=bM.1 ak
  rw[Y id O]at k
  exact((h.obj id o' k).lt B M).1
 refine⟨h.below.alloc h.below.size ob,⟨λb o' u N=>?_,λb aj N=>?_,λb B=>(Below.heap_alloc w ob b (h.sat.kI B)).trans (h.sat.df b B),h.sat.dz⟩,h.ext,λid o' k=>?_,λi j b U hi af F G=>?_⟩
 ·rw[uu w ob _ (h.sat.lt N)];exact h.sat.cell b o' u N
 ·have al:=h.sat.mp b aj N
  exact dZ.to (Below.heap_alloc w ob b (h.sat.ny N)) al
 ·by_cases O:id=nid
  ·subst O;rw[ae]at k;injection k with k;subst k;rw[dM];exact ar
  rw[Y id O]at k;rw[bW m v O]
  by_cases B:o'=.dead
  ·subst B;trivial
  exact(h.obj id o' k).cM an (λb M=>Below.heap_alloc w ob b ((h.obj id o' k).lt B M).1) (λb _=>⟨rfl,rfl⟩) ⟨λb u au _=>⟨Below.heap_alloc w ob b (h.sat.lt au),rfl,rfl⟩,λq b Z M=>by
   by_cases ad:q=nid
   ·subst ad;unfold cI at Z;rw[ae]at Z
    cases o<;>simp_all [AO.cI,AO.isRow]
   rw[bW m v ad]at M;unfold cI at Z;rw[Y q ad]at Z;exact .inl ⟨q,Z,M⟩⟩
 by_cases aa:i=nid
 ·subst aa;rw[dM]at F;rw[bW m v (hS U)]at G
  rw[ai]at F;injection F with F
  have:=ah j (hS U) af b G;omega
 by_cases ab:j=nid
 ·subst ab;rw[dM]at G;rw[bW m v U]at F
  rw[ai]at G;injection G with G
  have:=ah i U hi b F;omega
 rw[bW m v aa]at F;rw[bW m v ab]at G
 refine h.sep i j b U ?_ ?_ F G
 ·obtain⟨o',k,B⟩:=bM.1 hi;rw[Y i aa]at k;exact bM.2 ⟨o',k,B⟩
 obtain⟨o',k,B⟩:=bM.1 af;rw[Y j ab]at k;exact bM.2 ⟨o',k,B⟩
def aH.push(h:aH w0 I0 w I m l):aH w0 I0 w I m (l++[.dead])/\Le I m l I m (l++[.dead]):=by
 have G:∀id,id<l.length->(l++[AO.dead])[id]?=l[id]?:=λid B=>e1 B
 have M:∀(id:Nat) o,(l++[AO.dead])[id]?=some o->o=AO.dead\/l[id]?=some o:=by
  intro id o k
  rcases Nat.lt_trichotomy id l.length with hl|hl|hl
  ·rw[G id hl]at k;exact .inr k
  ·subst hl;simp at k;exact .inl k.symm
  rw[hF (by simp;omega)]at k;cases k
 have Z:Le I m l I m (l++[.dead]):=by
  refine⟨.refl I,by simp,λid B aa=>⟨?_,rfl⟩,λid B N=>⟨?_,rfl⟩,λid e size els B Y=>⟨els,?_⟩⟩
  ·unfold isVar at aa⊢;rw[G id B];exact aa
  ·unfold isRow at N⊢;rw[G id B]at N;exact N
  rw[G id B]at Y;exact Y
 have O:∀id,alive (l++[AO.dead]) id=true->alive l id=true:=by
  intro id ab
  obtain⟨o,k,U⟩:=bM.1 ab
  rcases M id o k with he|he
  ·exact absurd he U
  exact bM.2 ⟨o,he,U⟩
 refine⟨⟨h.below,h.sat,h.ext,λid o k=>?_,λi j b ad hi ae=>h.sep i j b ad (O i hi) (O j ae)⟩,Z⟩
 rcases M id o k with rfl|he
 ·trivial
 exact(h.obj id o he).cM Z (λ_ _=>rfl) (λ_ _=>⟨rfl,rfl⟩) (Gq.id λq F=>by
  unfold cI at F⊢
  cases k:(l++[AO.dead])[q]? with
  |none=>simp[k]at F
  |some o=>
   rcases M q o k with rfl|h
   ·simp[k,AO.cI]at F
   rw[k]at F;rw[h];exact F)
end
end Go.ag
namespace Go.ag
open Go Go.RowKit
variable [bq]
def iz(P:Program)(t:TypeId):TD->Bool
 |.jc=>match P.underlying t with|some (.struct _)|some (.array _ _)|none=>false|_=>true
 |.dS k=>match P.underlying t with|some (.int B)=>k == B|_=>false
 |.string=>match P.underlying t with|some .string=>true|_=>false
 |.slice e=>match P.underlying t with|some (.slice j)=>e == j|_=>false
 |.struct fs=>match P.underlying t with|some (.struct gs)=>decide (fs=gs.toList.map λf=>(f.offset,f.type))&&(!G7 fs||(gs.toList.all (λg=>g.name != "_") && !P.stoodInHeld t))|_=>false
 |.array n e=>match P.underlying t with|some (.array F j)=>n == F&&e == j|_=>false
 |.map k e=>match P.underlying t with|some (.map B j)=>k == B&&e == j|_=>false
def fY:List Value->List D->Bool
 | [],[]=>true
 |v::vs,d::ds=>pk v d&&fY vs ds
 |_,_=>false
def kD:Value->Bool
 |.agg _=>true
 |_=>false
def xP(P:Program)(t:TypeId)(i:TI):Bool:=
 match P.info? t with
 |some x=>x.size == i.size&&x.bytes == i.bytes&&(match x.zero with|some z=>fY z.cells.toList i.zero&&(kD z == i.desc.agg)|none=>false)&&iz P t i.desc&&decide (i.zero.length=i.size)
 |none=>false
def cq(P:Program)(E:cm):Prop:=∀t i,E t=some i->xP P t i=true
def fE(P:Program)(f:FuncId)(ds:List D)(r:D):Prop:=
 ∀(w:World)(I:ay)(vs:Array Value),du w I->vs.size=ds.length->(∀(i:Nat) v d,vs[i]?=some v->ds[i]?=some d->Rd I v d) ->
  Calls P f vs w λe w'=>∃v J,e=.returned v/\dN w.heap.size w w'/\fD w.heap.size I J/\du w' J/\Rd J v r
def Enters(P:Program)(f:FuncId):Prop:=∀(j:Array Value)(w:World),(callFunc f j).run P w=.ok (.enter f j) w
def Hp(P:Program)(C:xY):Prop:=∀f ds r ob,C f ds=some (r,ob)->ob->Enters P f/\fE P f ds r
def sL(P:Program)(g:FuncId)(ts:List T)(l:List AO)(t:T)(l':List AO):Prop:=
 ∀(w0:World)(I0:ay)(w:World)(I:ay)(m:Nat->Value)(j:Array Value),aH w0 I0 w I m l->j.size=ts.length->(∀(i:Nat) v x,j[i]?=some v->ts[i]?=some x->ar I m l v x) ->
  Calls P g j w λe w'=>∃v,e=.returned v/\∃J m',Le I m l J m' l'/\aH w0 I0 w' J m' l'/\ar J m' l' v t
def Hq(P:Program)(F:Cc):Prop:=∀g ts l r,F g ts l=some r->r.ob->Enters P g/\sL P g ts l r.t r.l
def iP(P:Program)(g:FuncId)(ts:List T)(l:List AO)(K:T->List AO->Prop):Prop:=
 Enters P g/\∀(w0:World)(I0:ay)(w:World)(I:ay)(m:Nat->Value)(j:Array Value)(vals:Nat->Value)(ft:Tm),aH w0 I0 w I m l->j.size=ts.length->(∀(i:Nat) v x,j[i]?=some v->ts[i]?=some x->ar I m l v x)->(∀k,ar I m l (vals k) (get ft k)) ->
  Calls P g j w λe w'=>∃v,e=.returned v/\∃t l' J m',K t l'/\aH w0 I0 w' J m' l'/\ar J m' l' v t/\(∀b,I.df b->J.df b)/\∀k,ar J m' l' (vals k) (get ft k)
theorem iP.mono{P:Program}{g:FuncId}{ts:List T}{l:List AO}{K j:T->List AO->Prop}(h:iP P g ts l K)(O:∀t l',K t l'->j t l'):iP P g ts l j:=⟨h.1,λw0 I0 w I m k vals ft B F G M=>(h.2 w0 I0 w I m k vals ft B F G M).mono λ_ _ ⟨v,N,t,l',J,m',U,Y⟩=>⟨v,N,t,l',J,m',O t l' U,Y⟩⟩
def qF(P:Program)(k:TypeId->Option (List Lf)):Prop:=∀t ls,k t=some ls->∀(j:BinOp)(x y:Operand)(I:ay)(u v:Value)(a b:D)(w:World),Rd I u a->Rd I v b ->
 ((∃p q,a=.bool p/\b=.bool q/\ls=[.bool])\/∃xs ys,a=.agg xs/\b=.agg ys/\ls≠[.bool]/\fH ls xs=true/\fH ls ys=true)->(j=.eql\/j=.neq) ->
 ((do eqGuard j t x y u v;binOp j t u v:Sem Value)).run P w=.ok (.bool (if j=.eql then gz a b else !(gz a b))) w
structure cA(P:Program)(V:Env):Prop where
 E:cq P V.E
 C:Hp P V.C
 eq:qF P V.jA
 F:Hq P V.F
 prog:V.P=P
def cp(P:Program)(r:Result Next)(Q:Value->World->Prop):Prop:=
 match r with
 |.ok (.value v) w'=>Q v w'
 |.ok .skip w'=>Q undef w'
 |.ok (.enter f args) w'=>Calls P f args w' λe j=>∃v,e=.returned v/\Q v j
 |_=>False
theorem cp.mono{P:Program}{r:Result Next}{Q Q':Value->World->Prop}(h:cp P r Q)(j:∀v w,Q v w->Q' v w):cp P r Q':=by
 unfold cp at *
 split at h
 ·exact j _ _ h
 ·exact j _ _ h
 ·exact h.mono λe w ⟨v,k,B⟩=>⟨v,k,j _ _ B⟩
 exact h.elim
class bX where
 r:Option Nat
 cM:Nat->Prop
def dc[bX]:Fence:={Fence.wide with round:=bX.r}
def l8[bX](f:FuncId):dc.fn f:=trivial
def CF[bX]{P:Program}{f:FuncId}{j:Array Value}{w:World}{R:Ending->World->Prop}(h:Calls P f j w R)(n:Nat):CallsIn dc n P f j w R:=by
 unfold dc
 cases bX.r with
 |none=>exact(vi (n:=n)).2 h
 |some l=>exact CallsIn.inRound l ((vi (n:=n)).2 h)
def cp.wpIn[bX]{P:Program}{o:Oper}{a:Act}{w:World}{K:Act->World->Prop}{Q:Exit->Act->World->Prop}(B:∀c,o.op ≠ .defer c)(h:cp P ((execOp a.eval o).run P w) λv w'=>K (a.put o.dst v) w'):o.wpIn dc 0 P a w K Q:=by
 unfold Oper.wpIn
 refine⟨λ_ _=>l8 _,?_⟩
 rw[Oper.semAt_eq _ _ _ B]
 generalize (execOp a.eval o).run P w=r at *
 unfold cp at h
 split at h
 ·exact h
 ·exact h
 ·simp only[Oper.uponIn]
  refine⟨λh=>by simp[dc,Fence.wide]at h,CF (h.mono λe w j=>?_) _⟩
  obtain⟨v,k,j⟩:=j
  subst k;exact j
 exact h.elim
section types
variable {P:Program}{E:cm}{t:TypeId}{i:TI}
def e9(h:xP P t i=true):∃x z,P.info? t=some x/\x.size=i.size/\x.bytes=i.bytes/\x.zero=some z/\fY z.cells.toList i.zero=true/\kD z=i.desc.agg/\iz P t i.desc=true/\i.zero.length=i.size:=by
 unfold xP at h
 cases B:P.info? t with
 |none=>simp[B]at h
 |some x=>
  simp only[B,db,sk,ea]at h
  obtain⟨⟨⟨⟨F,G⟩,j⟩,M⟩,N⟩:=h
  cases k:x.zero with
  |none=>simp[k]at j
  |some z=>
   simp only[k,db,sk]at j
   exact⟨x,z,rfl,F,G,k,j.1,j.2,M,N⟩
def kY(B:cq P E)(h:E t=some i)(w:World):(sizeOf t).run P w=.ok i.size w:=by
 obtain⟨x,z,j,k,_⟩:=e9 (B t i h)
 simp[sizeOf,typeInfo,j,k]
def xD(M:cq P E)(h:E t=some i)(w:World):∃z,(zeroValue t).run P w=.ok z w/\fY z.cells.toList i.zero=true/\kD z=i.desc.agg/\i.zero.length=i.size:=by
 obtain⟨x,z,j,N,O,k,B,F,U,G⟩:=e9 (M t i h)
 exact⟨z,by simp[zeroValue,typeInfo,j,k],B,F,G⟩
def l4(k:cq P E){s b:Nat}{z:List D}{e:TypeId}(h:E t=some ⟨s,b,z,.slice e⟩):P.underlying t=some (.slice e):=by
 obtain⟨x,z',G,M,N,O,U,Y,j,_⟩:=e9 (k t _ h)
 simp only[iz]at j
 split at j
 ·rename_i F B;simp at j;subst j;exact B
 cases j
def G3(k:cq P E){s b:Nat}{z:List D}(h:E t=some ⟨s,b,z,.string⟩):P.underlying t=some .string:=by
 obtain⟨x,z',B,F,G,M,N,O,j,_⟩:=e9 (k t _ h)
 simp only[iz]at j
 split at j
 ·assumption
 cases j
def BZ(k:cq P E){s b n:Nat}{z:List D}{e:TypeId}(h:E t=some ⟨s,b,z,.array n e⟩):P.underlying t=some (.array n e):=by
 obtain⟨x,z',G,M,N,O,U,Y,j,_⟩:=e9 (k t _ h)
 simp only[iz]at j
 split at j
 ·rename_i Z F B;simp at j;obtain⟨rfl,rfl⟩:=j;exact B
 cases j
def G4(B:cq P E){s b:Nat}{z:List D}{fs:List (Nat×TypeId)}(h:E t=some ⟨s,b,z,.struct fs⟩):∃k,P.underlying t=some (.struct k)/\fs=k.toList.map λf=>(f.offset,f.type):=by
 obtain⟨x,z',G,M,N,O,U,Y,j,_⟩:=e9 (B t _ h)
 simp only[iz]at j
 split at j
 ·rename_i k F;simp only[db]at j;exact⟨k,F,hA j.1⟩
 cases j
def aar(B:cq P E){s b:Nat}{z:List D}{fs:List (Nat×TypeId)}(h:E t=some ⟨s,b,z,.struct fs⟩)(M:G7 fs=true):∃k,P.underlying t=some (.struct k)/\fs=k.toList.map (λf=>(f.offset,f.type))/\(∀g∈k.toList,g.name ≠ "_")/\P.stoodInHeld t=false:=by
 obtain⟨x,z',N,O,U,Y,Z,aa,j,_⟩:=e9 (B t _ h)
 simp only[iz]at j
 split at j
 ·rename_i k F
  rw[M]at j
  simp only[p6,q9,db,gL]at j
  exact⟨k,F,hA j.1,λg G=>by have:=dT.1 j.2.1 g G;simpa using this,j.2.2⟩
 cases j
def Ng(F:cq P E)(h:E t=some i)(w:World):(isAgg t).run P w=.ok i.desc.agg w:=by
 obtain⟨x,z',G,M,N,O,U,Y,B,_⟩:=e9 (F t _ h)
 unfold isAgg
 cases k:P.underlying t with
 |none=>cases j:i.desc<;>simp[j,iz,k]at B
 |some d=>cases j:i.desc<;>cases d<;>simp[j,iz,k]at B<;>simp[hD k,TD.agg]
end types
def Hn(I:ay){v:Value}{d:D}(h:pk v d=true):Rd I v d/\d.one=true:=by
 unfold pk at h
 split at h
 all_goals first| (cases h;done)|skip
 all_goals try simp only[db,sk]at h
 ·subst h;exact⟨.bool _,rfl⟩
 ·obtain⟨rfl,rfl⟩:=h;exact⟨.int _ _,rfl⟩
 ·have:=ByteArray.ext h;subst this;exact⟨.str _,rfl⟩
 ·exact⟨.kf _ _ _ (j2 _),rfl⟩
 ·exact⟨.dX,rfl⟩
 ·exact⟨.ub,rfl⟩
 ·exact⟨.iU,rfl⟩
 exact⟨.qa,rfl⟩
theorem po(I:ay):∀(vs:List Value)(ds:List D),fY vs ds=true->vs.length=ds.length/\(∀d∈ds,d.one=true)/\∀(i:Nat) v d,vs[i]?=some v->ds[i]?=some d->Rd I v d
 | [],[],_=>⟨rfl,by simp,by simp⟩
 |v::vs,d::ds,h=>by
  simp only[fY,db]at h
  obtain⟨B,F,G⟩:=po I vs ds h.2
  obtain⟨M,N⟩:=Hn I h.1
  refine⟨by simp[B],by simp[N];exact F,λi x y j k=>?_⟩
  rcases i with _|i
  ·simp at j k;subst j;subst k;exact M
  simp at j k;exact G i x y j k
 | [],_::_,h=>by simp[fY]at h
 |_::_,[],h=>by simp[fY]at h
end Go.ag
namespace Go.ag
open Go Go.RowKit
variable [bq]
def eH(l L:List AO):Prop:=∀(id:Nat),id<l.length->L[id]?=l[id]?
theorem eH.refl(l:List AO):eH l l:=λ_ _=>rfl
theorem eH.get{l L:List AO}(h:eH l L){id:Nat}{o:AO}(j:l[id]?=some o):L[id]?=some o:=(h id (c5.1 j).1).trans j
def Rd.LV{I:ay}{v:Value}{d:D}(h:Rd I v d)(j:v.oneCell'=true):d.one=true:=by cases h<;>simp_all [D.one,Value.oneCell']
def Bt{I:ay}{m:Nat->Value}{L:List AO}{v:Value}{t:T}{x:D}(h:ar I m L v t)(j:gJ t=some x):Rd I v x:=by
 cases h<;>simp[gJ]at j
 ·subst j;assumption
 subst j;exact .kf _ _ _ (j2 _)
def MM{I:ay}{m:Nat->Value}{L:List AO}:∀(vs:List Value)(ts:List T)(ds:List D),ts.mapM gJ=some ds->vs.length=ts.length->(∀(i:Nat) v t,vs[i]?=some v->ts[i]?=some t->ar I m L v t) ->
  vs.length=ds.length/\∀(i:Nat) v d,vs[i]?=some v->ds[i]?=some d->Rd I v d
 | [],[],ds,h,_,_=>by simp at h;subst h;simp
 |v::vs,t::ts,ds,h,j,F=>by
  simp only[k8,Option.bind_eq_bind,k3,Option.pure_def,c4]at h
  obtain⟨x,O,xs,U,rfl⟩:=h
  obtain⟨G,M⟩:=MM vs ts xs U (by simpa using j) (λi v t N ht=>F (i+1) v t (by simpa using N) (by simpa using ht))
  refine⟨by simp[G],λi u d B k=>?_⟩
  rcases i with _|i
  ·simp at B k;subst B;subst k
   exact Bt (F 0 v t rfl rfl) O
  simp at B k;exact M i u d B k
 | [],_::_,_,_,j,_=>by simp at j
 |_::_,[],_,_,j,_=>by simp at j
def BP{P:Program}{E:cm}{t:TypeId}{i:TI}(B:cq P E)(h:E t=some i)(F:i.desc.agg=false):i.size=1:=by
 obtain⟨x,z,G,M,N,O,j,k,U,Y⟩:=e9 (B t i h)
 rw[F]at k
 have Z:z.cells.toList.length=1:=by cases z<;>simp_all [kD,Value.cells]
 have:=(po (I:=⟨λ_ _=>none,λ_=>none,λ_=>False⟩) _ _ j).1
 omega
def Nh{P:Program}{E:cm}{t:TypeId}{i:TI}(k:cq P E)(h:E t=some i)(w:World)(b o:Nat)(cs:List Value)(F:cs.length=i.size)(M:w.rangeAt b o cs) :
  (Instr.loadAt t (.pointer (some ⟨b,o,none⟩))).run P w=.ok (if i.desc.agg then .agg cs.toArray else cs.headD undef) w:=by
 have G:=Ng k h
 have O:=kY k h
 cases B:i.desc.agg with
 |true=>
  have Y:(loadCells ⟨b,o,none⟩ cs.length).run P w=.ok cs.toArray w:=run_loadCells_list (P:=P) w ⟨b,o,none⟩ cs (λj v Z=>by rw[q5];exact M j v Z)
  simp only[Instr.loadAt,Instr.sureAddr,fv,Sem.run_pure,Result.andThen_ok,loadVar,G,B,O,<-F,Y,hK]
 |false=>
  have N:=BP k h B
  rw[N]at F
  match cs,F with
  | [c],_=>
   have U:w.cell? ⟨b,o,none⟩=some c:=by simpa using M 0 c rfl
   simp[Instr.loadAt,Instr.sureAddr,fv,Result.andThen_ok,loadVar,G,B,U,List.headD]
def Yk{w:World}{b off n:Nat}{vs:Array Value}{ty:TypeId}{B:Nat×Nat}(h:w.heap[b]?=some (.cells vs ty B)):w.rangeAt b off ((vs.toList.drop off).take n):=by
 intro j v k
 rw[gl]at k
 split at k
 ·rw[kb]at k
  simp only[World.cell?,h]
  simpa using k
 cases k
def IZ:∀(ts:List T)(ds:List D),ts.mapM fi=some ds->ts.mapM gJ=some ds
 | [],ds,h=>h
 |t::ts,ds,h=>by
  simp only[k8,Option.bind_eq_bind,k3,Option.pure_def,c4]at h⊢
  obtain⟨x,j,xs,k,rfl⟩:=h
  refine⟨x,?_,xs,IZ ts xs k,rfl⟩
  cases t<;>simp[fi]at j
  subst j;rfl
theorem EL{I:ay}{m:Nat->Value}{L:List AO}{i:TI}{vs:List Value}{ts:List T}(G:vs.length=ts.length)(ab:vs.length=i.size)(U:i.desc.agg=false->i.size=1)(B:∀(j:Nat) v t,vs[j]?=some v->ts[j]?=some t->ar I m L v t/\v.oneCell'=true):ar I m L (if i.desc.agg then .agg vs.toArray else vs.headD undef) (gk i.desc.agg ts):=by
 cases Y:i.desc.agg with
 |true=>
  simp only[hK,gk]
  cases Z:ts.mapM fi with
  |none=>
   refine .agg _ _ (by simpa using G) (λj v k=>?_) (λj v t k ht=>(B j v t (by simpa using k) ht).1)
   have N:vs[j]?=some v:=by simpa using k
   have M:=(c5.1 N).1
   exact(B j v _ N (c3 (by omega))).2
  |some ds=>
   obtain⟨aa,O⟩:=MM vs ts ds (IZ ts ds Z) G (λj v t k ht=>(B j v t k ht).1)
   refine .d _ _ (.agg _ _ (by simpa using aa) (λd F=>?_) (λj v d k F=>O j v d (by simpa using k) F))
   obtain⟨j,M,rfl⟩:=gT.1 F
   have k:vs[j]?=some (vs[j]'(by omega)):=c3 (by omega)
   have ht:ts[j]?=some (ts[j]'(by omega)):=c3 (by omega)
   exact(O j _ _ k (c3 M)).LV (B j _ _ k ht).2
 |false=>
  have:=U Y
  match vs,ts,G,(by omega:vs.length=1)with
  | [v],[t],_,_=>simpa [gk]using (B 0 v t rfl rfl).1
def flat_get{size:Nat}:∀(els:List D),(∀d∈els,d.cells.length=size)->∀(k j:Nat)(d:D),els[k]?=some d->j<size->(flat els)[k*size+j]?=d.cells[j]?
 | [],_,k,j,d,h,_=>by simp at h
 |e::els,F,k,j,d,h,M=>by
  have B:e.cells.length=size:=F e (by simp)
  simp only[flat,hM]
  rcases k with _|k
  ·simp at h;subst h
   rw[e1 (by omega)];simp
  simp at h
  rw[hz (by rw[B,qd];omega)]
  have:=flat_get els (λd G=>F d (by simp[G])) k j d h M
  rw[B]
  rw[show(k+1)*size+j-size=k*size+j by rw[qd];omega]
  exact this
def iA{size:Nat}:∀(els:List D),(∀d∈els,d.cells.length=size)->(flat els).length=els.length*size
 | [],_=>by simp[flat]
 |e::els,j=>by
  have:=iA els (λd k=>j d (by simp[k]))
  simp only[flat,hM,e3,List.length_cons]at *
  rw[j e (by simp),this,qd];omega
theorem Eo{P:Program}{E:cm}{ty:TypeId}{i:TI}(ab:cq P E)(h:E ty=some i){w:World}{I:ay}{m:Nat->Value}{L:List AO}{b o size k off:Nat}{els:List D}{val:Nat->Value}(ai:∀d∈els,d.cells.length=size/\∀x∈d.cells,x.one=true)(aq:∀j,j<els.length*size->w.cell? ⟨b,o+j,none⟩=some (val j))(aA:∀(j:Nat) x,(flat els)[j]?=some x->Rd I (val j) x)(G:(iD i size els k off).ob) :
  (iD i size els k off).bA=.none/\∃u,(Instr.loadAt ty (.pointer (some ⟨b,o+k*size+off,none⟩))).run P w=.ok u w/\ar I m L u (iD i size els k off).t:=by
 have aj:∀d∈els,d.cells.length=size:=λd N=>(ai d N).1
 have aa:k<els.length:=by unfold iD at G;split at G<;>exact G.1
 have af:els[k]?=some els[k]:=c3 aa
 have ae:eK els k=els[k]:=by simp[eK,af]
 have aD:off+i.size<=size:=by
  unfold iD at G;split at G
  ·rename_i O;omega
  exact G.2
 have ag:els[k]∈els:=h6 aa
 have au:els[k].cells.length=size:=aj _ ag
 have ao:∀j,j<size->k*size+j<els.length*size:=λj B=>by
  have:(k+1)*size<=els.length*size:=ka _ aa
  rw[qd]at this;omega
 have aB:w.rangeAt b (o+k*size+off) ((List.range i.size).map λj=>val (k*size+(off+j))):=by
  intro j v M
  simp only[et]at M
  by_cases B:j<i.size
  ·simp[B]at M
   have:=aq (k*size+(off+j)) (ao _ (by omega))
   rw[show o+k*size+off+j=o+(k*size+(off+j)) by omega,this,M]
  simp[B]at M
 have av:=Nh ab h w b (o+k*size+off) _ (by simp) aB
 have ah:∀j,j<i.size->∀x,els[k].cells[off+j]?=some x->Rd I (val (k*size+(off+j))) x:=λj B x F=>aA _ x ((flat_get els aj k (off+j) els[k] af (by omega)).trans F)
 have az:∀x∈els[k].cells,x.one=true:=(ai _ ag).2
 refine⟨by unfold iD;split<;>rfl,_,av,?_⟩
 have ad:∀ds:List D,ds=(els[k].cells.drop off).take i.size->ar I m L (if i.desc.agg then .agg ((List.range i.size).map λj=>val (k*size+(off+j))).toArray else((List.range i.size).map λj=>val (k*size+(off+j))).headD undef) (.d (eM i.desc.agg ds)):=by
  intro ds Z
  have Y:ds.length=i.size:=by rw[Z,e8,rb,au];omega
  have U:∀(j:Nat) x,ds[j]?=some x->j<i.size/\els[k].cells[off+j]?=some x:=by
   intro j x F
   have B:j<i.size:=by rw[<-Y];exact(c5.1 F).1
   rw[Z,gl,if_pos B,kb]at F
   exact⟨B,F⟩
  cases al:i.desc.agg with
  |true=>
   simp only[hK,eM]
   refine .d _ _ (.agg _ _ (by simp[Y]) (λd N=>?_) (λj v d M N=>?_))
   ·rw[Z]at N
    exact az d (sm (na N))
   obtain⟨B,F⟩:=U j d N
   have:v=val (k*size+(off+j)):=by
    simp[B]at M
    exact M.symm
   rw[this];exact ah j B d F
  |false=>
   have ak:=BP ab h al
   rw[ak]at Y⊢
   match ds,Y,U with
   | [x],_,U=>
    obtain⟨_,F⟩:=U 0 x rfl
    simp only[eM,List.headD,hQ,h8]
    exact .d _ _ (by simpa using ah 0 (by omega) x F)
 by_cases O:size=i.size/\off=0
 ·simp only[iD,if_pos O]at G⊢
  have aE:size=i.size:=O.1
  have ax:off=0:=O.2
  have an:rp (eK els k)=i.desc.agg:=G.2
  have:=ad els[k].cells (by subst ax;rw[rr,k5 (by omega)])
  rw[ae]at an⊢
  have aw:eM i.desc.agg els[k].cells=els[k]:=by cases aC:els[k]<;>simp_all [rp,eM,D.cells]
  rw[aw]at this
  exact this
 simp only[iD,if_neg O]
 rw[ae]
 exact ad _ rfl
section
variable {P:Program}{V:Env}{w0 w:World}{I0 I:ay}{m:Nat->Value}{l L:List AO}
def M7{w:World}{B:Nat}{e:TypeId}{size n b c:Nat}{xs:List Value}(h:w.ownsRow B e size (.slice (some ⟨b,0,none⟩) n c) n xs):∀(j:Nat) x,xs[j]?=some x->w.cell? ⟨b,j,none⟩=some x:=by
 intro j x F
 rcases h.2 with ⟨k,_⟩| ⟨g,N,cur,k,Z,M,O,U,Y,G⟩
 ·cases k
 injection k with k _ _;injection k with k;injection k with k;subst k
 rw[<-G,gl]at F
 split at F
 ·simpa [World.cell?,M]using F
 cases F
def M8{B:Nat}{v:Value}{e:TypeId}{size b n c:Nat}{els:List D}{xs:List Value}(F:w.ownsRow B e size v els.length xs)(k:v=.slice (some ⟨b,0,none⟩) n c):els.length=n/\∀(j:Nat) x,xs[j]?=some x->w.cell? ⟨b,j,none⟩=some x:=by
 have G:els.length=n:=by
  rcases F.2 with ⟨q,_⟩| ⟨g,cap,cur,q,_⟩<;>rw[q]at k
  ·cases k
  injection k
 subst G;subst k
 exact⟨rfl,M7 F⟩
theorem KT(Y:cq P V.E)(ae:aH w0 I0 w I m L)(Z:eH l L){ty:TypeId}{v:Value}{x:T}(N:ar I m L v x)(B:(fo V.E ty l x).ob) :
  (fo V.E ty l x).bA=.none/\∃u,(Instr.loadAt ty v).run P w=.ok u w/\ar I m L u (fo V.E ty l x).t:=by
 cases N with
 |ptr id b off U av=>
  simp only[fo]at B⊢
  cases hi:V.E ty with
  |none=>simp[hi,R.bad]at B
  |some i=>
   cases F:l[id]? with
   |none=>simp[hi,F,R.bad]at B
   |some o=>
    cases o with
    |var t' cs=>
     simp only[hi,F]at B⊢
     split at B
     ·rename_i au
      rw[if_pos au]
      obtain⟨ay,vs,G,al,O,an,af,az⟩:=ae.obj id _ (Z.get F)
      rw[av]at G;injection G with G;injection G with G;injection G with G;subst G
      have ao:((vs.toList.drop off).take i.size).length=i.size:=by simp;omega
      refine⟨rfl,_,Nh Y hi w b off _ ao (Yk O),?_⟩
      refine EL (by simp;omega) ao (BP Y hi) (λj v t U ht=>?_)
      rw[gl]at U ht
      split at U
      ·rename_i M
       rw[if_pos M]at ht
       rw[kb]at U ht
       exact af (off+j) v t (by simpa using U) ht
      cases U
     simp[R.bad]at B
    |_=>simp[hi,F,R.bad]at B
 |bB b o size els k off val al O an af=>
  simp only[fo]at B⊢
  cases hi:V.E ty with
  |none=>simp[hi,R.bad]at B
  |some i=>
   simp only[hi]at B⊢
   exact Eo Y hi O (λj M=>ae.sat.cell _ _ _ (an j M)) af B
 |bw a id k off al O=>
  simp only[fo]at B⊢
  cases hi:V.E ty with
  |none=>simp[hi,R.bad]at B
  |some i=>
   cases F:l[id]? with
   |none=>simp[hi,F,R.bad]at B
   |some o=>
    cases o with
    |row e size els=>
     simp only[hi,F]at B⊢
     obtain⟨b,n,c,ak,rfl⟩:=O e size els (.inl (Z.get F))
     obtain⟨xs,ab,ad,aj,ax⟩:=ae.obj id _ (Z.get F)
     obtain⟨aw,ag⟩:=M8 ab ak
     have ai:xs.length=els.length*size:=ab.1
     have:=Eo (P:=P) (I:=I) (m:=m) (L:=L) (w:=w) (b:=b) (o:=0) (k:=k) (off:=off) (val:=λj=>(xs[j]?).getD undef) Y hi ad
      (
       λj M=>by rw[hV];exact ag j _ (by simp[ai,M])) (λj x N=>by
       have aq:j<els.length*size:=by rw[<-iA els (λd ah=>(ad d ah).1)];exact(c5.1 N).1
       have aa:xs[j]?=some (xs[j]'(by omega)):=c3 (by omega)
       rw[aa];exact aj j _ x aa N) B
     simpa using this
    |br e size els=>
     simp only[hi,F]at B⊢
     obtain⟨b,n,c,ak,rfl⟩:=O e size els (.inr (Z.get F))
     obtain⟨xs,ab,ad,aj,ax⟩:=ae.obj id _ (Z.get F)
     obtain⟨aw,ag⟩:=M8 ab ak
     have ai:xs.length=els.length*size:=ab.1
     have:=Eo (P:=P) (I:=I) (m:=m) (L:=L) (w:=w) (b:=b) (o:=0) (k:=k) (off:=off) (val:=λj=>(xs[j]?).getD undef) Y hi ad
      (
       λj M=>by rw[hV];exact ag j _ (by simp[ai,M])) (λj x N=>by
       have aq:j<els.length*size:=by rw[<-iA els (λd ah=>(ad d ah).1)];exact(c5.1 N).1
       have aa:xs[j]?=some (xs[j]'(by omega)):=c3 (by omega)
       rw[aa];exact aj j _ x aa N) B
     simpa using this
    |_=>simp[hi,F,R.bad]at B
 |_=>simp[fo,R.bad]at B
end
end Go.ag
namespace Go.ag
open Go Go.RowKit
variable [bq]
section
variable {P:Program}{V:Env}{w0 w:World}{I0 I:ay}{m:Nat->Value}{l L:List AO}
def lL{l:List AO}{id:Nat}{o o':AO}(h:l[id]?=some o)(B:o.isVar=o'.isVar)(k:Nat):isVar (l.set id o') k=isVar l k:=by
 unfold isVar
 by_cases j:k=id
 ·subst j
  rw[e4,if_pos rfl,if_pos (c5.1 h).1,h];simp[B]
 rw[e4,if_neg (hS j)]
def lK{l:List AO}{id:Nat}{o o':AO}(h:l[id]?=some o)(B:o.isRow=o'.isRow)(k:Nat):isRow (l.set id o') k=isRow l k:=by
 unfold isRow
 by_cases j:k=id
 ·subst j
  rw[e4,if_pos rfl,if_pos (c5.1 h).1,h];simp[B]
 rw[e4,if_neg (hS j)]
def Le.Nx{id:Nat}{ty G:TypeId}{cs F:List T}(h:l[id]?=some (.var ty cs)):Le I m l I m (l.set id (.var G F)):=by
 refine⟨.refl I,by simp,λk _ B=>⟨(lL (o':=.var G F) h rfl k).trans B,rfl⟩,λk _ B=>⟨(lK (o':=.var G F) h rfl k).symm.trans B,rfl⟩,λk e size els B j=>⟨els,?_⟩⟩
 by_cases M:k=id
 ·subst M;rw[e4,if_pos rfl,if_pos (c5.1 h).1]at j;simp at j
 rw[e4,if_neg (hS M)]at j;exact j
theorem GJ(aG:cq P V.E)(N:aH w0 I0 w I m l){id off b:Nat}{ty t':TypeId}{cs:List T}{x:T}{v:Value}(Z:l[id]?=some (.var t' cs))(al:m id=.pointer (some ⟨b,0,none⟩))(aU:ar I m l v x)(ae:(bx x).all T.fS=true)(ax:(bx x).length=bD V.E ty)(a1:0<(bx x).length)(aY:off+(bx x).length<=cs.length) :
  ∃w',(Instr.storeAt ty (.pointer (some ⟨b,off,none⟩)) v).run P w=.ok () w'/\aH w0 I0 w' I m (l.set id (.var t' (setAt cs off (bx x)))):=by
 obtain⟨M,vs,aa,aV,ag,aB,aC,ah⟩:=N.obj id _ Z
 rw[al]at aa;injection aa with aa;injection aa with aa;injection aa with aa;subst aa
 have aL:v.cells.toList.length=(bx x).length/\(∀u∈v.cells.toList,u.oneCell'=true)/\∀(i:Nat) u t,v.cells.toList[i]?=some u->(bx x)[i]?=some t->ar I m l u t:=by
  have one:∀(u:Value),u.oneCell'=true->u.cells.toList=[u]:=λu B=>by cases u<;>simp_all [Value.oneCell',Value.cells]
  have O:∀(t:T),bx t=[t]->ar I m l v t->v.oneCell'=true->v.cells.toList.length=(bx t).length/\(∀u∈v.cells.toList,u.oneCell'=true)/\∀(i:Nat) u s,v.cells.toList[i]?=some u->(bx t)[i]?=some s->ar I m l u s:=by
   intro t ht aR aA
   rw[one v aA,ht]
   refine⟨rfl,by simpa using aA,λi u s B az=>?_⟩
   rcases i with _|i
   ·simp at B az;subst B;subst az;exact aR
   simp at B
  cases aU with
  |undef=>simp[bx,T.fS]at ae
  |d _ d ad=>
   by_cases ht:∃ds,d=.aN ds
   ·obtain⟨ds,rfl⟩:=ht;simp[bx,D.cells,T.fS,D.one]at ae
   obtain⟨F,G,Y⟩:=ad.cells (λds e=>ht ⟨ds,e⟩)
   refine⟨by simp[bx,F],λu B=>?_,λi u t B af=>?_⟩
   ·obtain⟨i,hi,rfl⟩:=gT.1 B
    have au:i<d.cells.length:=by simp at hi;omega
    exact(Y i _ d.cells[i] (by rw[<-j3];exact c3 hi) (c3 au)).one (G _ (h6 au))
   simp only[bx,et]at af
   cases aj:d.cells[i]? with
   |none=>simp[aj]at af
   |some y=>
    simp[aj]at af
    subst af
    exact .d _ _ (Y i u y (by simpa using B) aj)
  |bC s=>exact O _ rfl (.bC s) rfl
  |ptr id b off F G=>exact O _ rfl (.ptr id b off F G) rfl
  |bB b o size els k off val F G Y ao=>exact O _ rfl (.bB b o size els k off val F G Y ao) rfl
  |aN=>simp[bx,T.fS]at ae
  |cond=>simp[bx,T.fS]at ae
  |row A n c id F G=>exact O _ rfl (.row A n c id F G) rfl
  |bJ A n c id x F G Y=>exact O _ rfl (.bJ A n c id x F G Y) rfl
  |bw a id k off F G=>exact O _ rfl (.bw a id k off F G) rfl
  |map r id F G=>exact O _ rfl (.map r id F G) rfl
  |aD g vs ts F G=>exact O _ rfl (.aD g vs ts F G) rfl
  |bf id b F G=>exact O _ rfl (.bf id b F G) rfl
  |cE id b n c F G Y ao=>exact O _ rfl (.cE id b n c F G Y ao) rfl
  |sub A n c id lo hi F G=>exact O _ rfl (.sub A n c id lo hi F G) rfl
  |agg vs ts F G Y=>
   refine⟨by simp[bx,Value.cells,F],λu B=>?_,λi u t B ht=>Y i u t (by simpa [Value.cells]using B) (by simpa [bx]using ht)⟩
   obtain⟨i,hi,rfl⟩:=gT.1 B
   simp only[Value.cells]at hi⊢
   exact G i _ (by rw[<-j3];exact c3 hi)
 obtain⟨ai,aq,aE⟩:=aL
 have aS:(sizeOf ty).run P w=.ok v.cells.size w:=by
  cases hi:V.E ty with
  |none=>simp only[bD,hi,Option.map_none,Option.getD_none]at ax;omega
  |some i=>
   rw[kY aG hi w]
   simp only[bD,hi,Option.map_some,Option.getD_some]at ax
   rw[Array.length_toList]at ai;congr 1;omega
 have aT:=w1 P b off t' v.cells.toList 0 vs w ag (by rw[aB];omega) aq
 refine⟨_,by simp only[Instr.storeAt,Instr.sureAddr,fv,Sem.run_pure,Result.andThen_ok,storeVar,aS,ne_eq,ib,h8,aT];rfl,?_⟩
 simp only[Nat.add_zero]
 generalize ay:(vs.toList.take off++v.cells.toList++vs.toList.drop (off+v.cells.toList.length)).toArray=new
 have aZ:b<w.heap.size:=(e6.1 ag).1
 have aO:(w.setRow b new).heap[b]?=some (.cells new t' (0,0)):=K1 w b vs new t' (0,0) ag
 have aw:Le I m l I m (l.set id (.var t' (setAt cs off (bx x)))):=Le.Nx Z
 have aP:id<l.length:=(c5.1 Z).1
 refine⟨N.below.trans ⟨rfl,rfl,rfl,by simp,λk aX=>p2 w b _ new (by omega),λ_=>eb _⟩,⟨λM o u ab=>?_,λM aF ab=>?_,λM ad=>(p2 w b _ new (λe=>by subst e;exact N.sat.lP ag (by simp) ad)).trans (N.sat.df M ad),N.sat.dz⟩,N.ext,λj o U=>?_,λi j M aQ hi U aJ aK=>?_⟩
 ·have an:M≠b:=by rintro rfl;rw[ah.1]at ab;cases ab
  have:=N.sat.cell M o u ab
  exact(la (w:=w) (a:=⟨M,o,none⟩) (p2 w b _ new an)).trans this
 ·have an:M≠b:=by rintro rfl;rw[ah.2]at ab;cases ab
  have aM:=N.sat.mp M aF ab
  exact dZ.to (p2 w b _ new an) aM
 ·by_cases ak:j=id
  ·subst ak
   rw[e4,if_pos rfl,if_pos aP]at U
   injection U with U;subst U
   refine⟨b,new,al,aV,aO,?_,λi u t B ht=>?_,ah⟩
   ·subst ay;simp[setAt,aB,e3,e8,rb]at ai⊢;omega
   subst ay
   have key:∀(i:Nat),(vs.toList.take off++v.cells.toList++vs.toList.drop (off+v.cells.toList.length))[i]?=some u->(setAt cs off (bx x))[i]?=some t->ar I m l u t/\u.oneCell'=true:=by
    intro i B ht
    have l1:(vs.toList.take off).length=off:=by simp;omega
    have aW:(cs.take off).length=off:=by simp;omega
    rw[hU,hB]at B
    rw[setAt,hU,hB]at ht
    rw[l1]at B;rw[aW]at ht
    by_cases hi:i<off
    ·rw[if_pos hi]at B ht
     rw[gl,if_pos hi]at B ht
     exact aC i u t (by simpa using B) ht
    rw[if_neg hi]at B ht
    rw[hB]at B ht
    rw[ai]at B
    by_cases av:i-off<(bx x).length
    ·rw[if_pos av]at B ht
     refine⟨aE _ u t B ht,aq u ?_⟩
     exact dk B
    rw[if_neg av]at B ht
    rw[kb]at B ht
    exact aC _ u t (by simpa using B) ht
   have:=key i (by simpa using B) ht
   exact⟨this.1.mono aw,this.2⟩
  rw[e4,if_neg (hS ak)]at U
  by_cases ad:o=.dead
  ·subst ad;trivial
  refine(N.obj j o U).cM aw (λM aI=>p2 w b _ new ?_) (λ_ _=>⟨rfl,rfl⟩) (.set (λM u B=>p2 w b _ new (λe=>by subst e;rw[ah.1]at B;cases B)) (λh=>by cases h))
  rintro rfl
  exact N.sep j id M ak (bM.2 ⟨o,U,ad⟩) (bM.2 ⟨_,Z,by simp⟩) aI (by rw[al];rfl)
 refine N.sep i j M aQ ?_ ?_ aJ aK
 ·unfold alive at hi⊢;rwa [lL (o':=.var t' (setAt cs off (bx x))) Z rfl,lK (o':=.var t' (setAt cs off (bx x))) Z rfl]at hi
 unfold alive at U⊢;rwa [lL (o':=.var t' (setAt cs off (bx x))) Z rfl,lK (o':=.var t' (setAt cs off (bx x))) Z rfl]at U
end
end Go.ag
namespace Go.ag
open Go Go.RowKit
variable [bq]
section
variable {P:Program}{V:Env}{w0 w:World}{I0 I:ay}{m:Nat->Value}{l L:List AO}
theorem aH.GX(h:aH w0 I0 w I m l){id:Nat}{o o':AO}{J:ay}(B:l[id]?=some o)(ae:o.isVar=o'.isVar)(aa:o.isRow=o'.isRow)(ak:o'.isRow=true)(av:∀e size els,(o'=.row e size els\/o'=.br e size els)->∃els',(o=.row e size els'\/o=.br e size els'))(Z:I.le J)(U:∀b,own (m id)≠some b->J.cell b=I.cell b/\J.mp b=I.mp b)(aw:du w J)(au:dW w0.heap.size w J m (l.set id o') (m id) o'):aH w0 I0 w J m (l.set id o')/\Le I m l J m (l.set id o'):=by
 have ai:id<l.length:=(c5.1 B).1
 have ag:Le I m l J m (l.set id o'):=by
  refine⟨Z,by simp,λk _ Y=>⟨(lL B ae k).trans Y,rfl⟩,λk _ Y=>⟨(lK B aa k).symm.trans Y,rfl⟩,λk e size els Y hh=>?_⟩
  by_cases aj:k=id
  ·subst aj;rw[e4,if_pos rfl,if_pos ai]at hh
   have ao:o'=.row e size els\/o'=.br e size els:=by rcases hh with hh|hh<;>(injection hh with hh;simp[hh])
   obtain⟨els',hc⟩:=av e size els ao
   exact⟨els',by rcases hc with hc|hc<;>rw[B,hc]<;>simp⟩
  rw[e4,if_neg (hS aj)]at hh;exact⟨els,hh⟩
 have O:o ≠ .dead:=by rintro rfl;rw[<-aa]at ak;simp[AO.isRow]at ak
 refine⟨⟨h.below,aw,⟨λ_ _ _ x=>Z.cell _ _ _ (h.ext.lc _ _ _ x),λ_ _ x=>Z.mp _ _ (h.ext.lm _ _ x),λb F x=>Z.df b (h.ext.ld b F x),λb F=>?_,λb F=>?_⟩,λj af G=>?_,λi j b aq hi G=>?_⟩,ag⟩
 ·by_cases N:own (m id)=some b
  ·have:=((h.obj id o B).lt O N).2;omega
  exact(U b N).1.trans (h.ext.cell b F)
 ·by_cases N:own (m id)=some b
  ·have:=((h.obj id o B).lt O N).2;omega
  exact(U b N).2.trans (h.ext.mp b F)
 ·by_cases ab:j=id
  ·subst ab;rw[e4,if_pos rfl,if_pos ai]at G;injection G with G;subst G;exact au
  rw[e4,if_neg (hS ab)]at G
  by_cases ah:af=.dead
  ·subst ah;trivial
  exact(h.obj j af G).cM ag (λ_ _=>rfl) (λb F=>U b (λan=>h.sep j id b ab (bM.2 ⟨af,G,ah⟩) (bM.2 ⟨o,B,O⟩) F an)) ⟨λb u al ad=>⟨rfl,U b λF=>(((h.obj id o B).G8 O F).elim (λM=>ad id (by unfold cI;rw[B];exact M) F) λar=>by rw[ar]at al;cases al)⟩,λq b ad F=>(zb ad).elim (λM=>.inl ⟨q,M,F⟩) λM=>by
   obtain⟨rfl,_⟩:=M
   exact((h.obj q o B).G8 O F).elim (λM=>.inl ⟨q,by unfold cI;rw[B];exact M,F⟩) .inr⟩
 refine h.sep i j b aq ?_ ?_
 ·unfold alive at hi⊢;rwa [lL (o':=o') B ae,lK (o':=o') B aa]at hi
 unfold alive at G⊢;rwa [lL (o':=o') B ae,lK (o':=o') B aa]at G
def ay.dH(I:ay)(b:Nat)(xs:List Value):ay:=⟨λj o=>if j=b then(match xs[o]? with|some x=>some x|none=>I.cell b o)else I.cell j o,I.mp,I.df⟩
def ay.sI(I:ay)(b:Nat)(k:ME):ay:=⟨I.cell,λj=>if j=b then some k else I.mp j,I.df⟩
def uK{J:ay}{v:Value}{B:Nat}{e:TypeId}{size:Nat}{els:List D}{xs:List Value}(F:w.ownsRow B e size v els.length xs)(G:∀d∈els,d.cells.length=size/\∀x∈d.cells,x.one=true)(O:∀(j:Nat) x y,xs[j]?=some x->(flat els)[j]?=some y->Rd J x y)(U:∀b,own v=some b->∀(j:Nat) x,xs[j]?=some x->J.cell b j=some x):Rd J v (.slice size els):=by
 have ah:xs.length=els.length*size:=F.1
 rcases F.2 with ⟨rfl,Z⟩| ⟨g,N,cur,rfl,ad,ae,aa,ab,ai,aj⟩
 ·have:els=[]:=j1 Z
  subst this
  exact .kf _ _ _ (j2 _)
 refine .slice g 0 els.length N size els (λj=>(xs[j]?).getD undef) rfl aa ab G (λj af=>?_) (λj x M=>?_)
 ·have k:xs[j]?=some (xs[j]'(by omega)):=c3 (by omega)
  rw[hV,k];exact U g rfl j _ k
 have ag:j<els.length*size:=by rw[<-iA els (λd Y=>(G d Y).1)];exact(c5.1 M).1
 have k:xs[j]?=some (xs[j]'(by omega)):=c3 (by omega)
 rw[k];exact O j _ x k M
def Om(M:aH w0 I0 w I m l){v:Value}{t:T}{x:D}{l':List AO}(ht:ar I m l v t)(k:cV l t=some (x,l')):∃J,Le I m l J m l'/\aH w0 I0 w J m l'/\Rd J v x/\l'.length=l.length:=by
 cases ht with
 |d v y aj=>simp[cV]at k;obtain⟨rfl,rfl⟩:=k;exact⟨I,.refl ..,M,aj,rfl⟩
 |bC s=>simp[cV]at k;obtain⟨rfl,rfl⟩:=k;exact⟨I,.refl ..,M,.kf _ _ _ (j2 _),rfl⟩
 |bJ A n c id x aE ae aI=>simp[cV]at k;obtain⟨rfl,rfl⟩:=k;exact⟨I,.refl ..,M,aI,rfl⟩
 |row A n c id aE ae=>
  simp only[cV]at k
  cases N:l[id]? with
  |none=>simp[N]at k
  |some o=>
   cases o with
   |br e s els=>
    simp only[N,c4,e0]at k
    obtain⟨rfl,rfl⟩:=k
    have aa:=ae (by simp[isRow,N,AO.isRow])
    obtain⟨xs,U,af,ag,an⟩:=M.obj id _ N
    rw[aa]at U an
    exact⟨I,.refl ..,M,uK U af ag (λb ai=>(an b ai).2.1),rfl⟩
   |row e s els=>
    simp only[N,c4,e0]at k
    obtain⟨rfl,rfl⟩:=k
    have aa:=ae (by simp[isRow,N,AO.isRow])
    obtain⟨xs,U,af,ag,an⟩:=M.obj id _ N
    rcases O:own (m id)with _|b
    ·
     have az:∀b,own (m id)≠some b:=λb h=>by rw[O]at h;cases h
     obtain⟨ak,al⟩:=M.GX (o':=.br e s els) (J:=I) N rfl rfl rfl (λaD s' els' h=>by rcases h with h|h<;>cases h;exact⟨els,.inl rfl⟩) (.refl I) (λ_ _=>⟨rfl,rfl⟩) M.sat ⟨xs,U,af,ag,λb ai=>absurd ai (az b)⟩
     rw[aa]at U az
     exact⟨I,al,ak,uK U af ag (λb ai=>absurd ai (az b)),by simp⟩
    obtain⟨n1,aN⟩:=an b O
    let J:=I.dH b xs
    have aF:∀(j:Nat) x,xs[j]?=some x->J.cell b j=some x:=λj x ab=>by simp[J,ay.dH,ab]
    have Y:I.le J:=⟨λG o u F=>by
     by_cases B:G=b
     ·subst B;rw[n1 o]at F;cases F
     simp[J,ay.dH,B,F],λ_ _ h=>h,λ_ h=>h⟩
    have aL:∀G,some b≠some G->J.cell G=I.cell G/\J.mp G=I.mp G:=λG B=>⟨by funext o;simp[J,ay.dH,show G≠b from λe=>B (by rw[e])],rfl⟩
    have aJ:∀(j:Nat) x,xs[j]?=some x->w.cell? ⟨b,j,none⟩=some x:=by
     rw[aa]at U O
     cases A with
     |none=>simp[own]at O
     |some a=>
      obtain⟨q,_⟩:∃ax,(Value.slice (some a) n c)=.slice (some ⟨b,0,none⟩) els.length ax/\True:=by
       rcases U.2 with ⟨q,_⟩| ⟨g,ax,cur,q,_⟩
       ·cases q
       rw[q]at O;simp[own]at O;subst O;exact⟨ax,q,trivial⟩
      rename_i aM
      rw[aM.1]at U
      exact M7 U
    have aA:du w J:=⟨λG o u F=>by
     by_cases B:G=b
     ·subst B
      simp only[J,ay.dH,hK]at F
      cases ab:xs[o]? with
      |none=>simp only[ab]at F;rw[n1 o]at F;cases F
      |some x=>simp only[ab]at F;injection F with F;subst F;exact aJ o x ab
     simp only[J,ay.dH,if_neg B]at F;exact M.sat.cell G o u F,M.sat.mp,M.sat.df,λg d h=>(M.sat.dz g d h).mono Y⟩
    obtain⟨ak,al⟩:=M.GX (o':=.br e s els) (J:=J) N rfl rfl rfl (λaD s' els' h=>by rcases h with h|h<;>cases h;exact⟨els,.inl rfl⟩) Y (λG B=>aL G (λe=>B (O.trans e))) aA
     ⟨xs,U,af,λj x y ab aj=>(ag j x y ab aj).mono Y,λG B=>by
      rw[O]at B;injection B with B;subst B
      exact⟨aN,aF,λj aK=>by simp only[J,ay.dH,hK,hF aK];exact n1 j⟩⟩
    rw[aa]at U O
    exact⟨J,al,ak,uK U af (λj x y ab aj=>(ag j x y ab aj).mono Y) (λG B=>by rw[O]at B;injection B with B;subst B;exact aF),by simp⟩
   |_=>simp[N]at k
 |map r id aE ae=>
  simp only[cV]at k
  cases N:l[id]? with
  |none=>simp[N]at k
  |some o=>
   cases o with
   |dR ao vs=>
    simp only[N,c4,e0]at k
    obtain⟨rfl,rfl⟩:=k
    have aa:=ae (by simp[isRow,N,AO.isRow])
    obtain⟨b,ah,Z,aG,aB,aq,au,av,aw,aC,aO⟩:=M.obj id _ N
    rw[aa]at Z;injection Z with Z;subst Z
    exact⟨I,.refl ..,M,.map b ah ao vs aO aq au av aw,rfl⟩
   |map ao vs=>
    simp only[N,c4,e0]at k
    obtain⟨rfl,rfl⟩:=k
    have aa:=ae (by simp[isRow,N,AO.isRow])
    obtain⟨b,ah,Z,aG,aB,aq,au,av,aw,aC⟩:=M.obj id _ N
    have O:own (m id)=some b:=by rw[Z];rfl
    let J:=I.sI b ah
    have Y:I.le J:=⟨λ_ _ _ h=>h,λG es' F=>by
     by_cases B:G=b
     ·subst B;rw[aC.2]at F;cases F
     simp[J,ay.sI,B,F],λ_ h=>h⟩
    have aA:du w J:=⟨M.sat.cell,λG es' F=>by
     by_cases B:G=b
     ·subst B;simp only[J,ay.sI,hK]at F;injection F with F;subst F;exact aB
     simp only[J,ay.sI,if_neg B]at F;exact M.sat.mp G es' F,M.sat.df,λg d h=>(M.sat.dz g d h).mono Y⟩
    obtain⟨ak,al⟩:=M.GX (o':=.dR ao vs) (J:=J) N rfl rfl rfl (λaD s' els' h=>by rcases h with h|h<;>cases h) Y
     (λG B=>⟨rfl,by simp[J,ay.sI,show G≠b from λe=>B (by rw[O,e])]⟩) aA
     ⟨b,ah,Z,aG,aB,aq,au,λi e d ad k=>(av i e d ad k).mono Y,λi e d ad k=>(aw i e d ad k).mono Y,aC.1,by simp[J,ay.sI]⟩
    rw[aa]at Z;injection Z with Z;subst Z
    exact⟨J,al,ak,.map b ah ao vs (by simp[J,ay.sI]) aq au (λi e d ad k=>(av i e d ad k).mono Y) (λi e d ad k=>(aw i e d ad k).mono Y),by simp⟩
   |_=>simp[N]at k
 |_=>simp[cV]at k
def HL:∀(ts:List T)(l:List AO)(I:ay)(vs:List Value)(ds:List D)(l':List AO),aH w0 I0 w I m l->vs.length=ts.length->(∀(i:Nat) v t,vs[i]?=some v->ts[i]?=some t->ar I m l v t)->dq l ts=some (ds,l') ->
  ∃J,Le I m l J m l'/\aH w0 I0 w J m l'/\vs.length=ds.length/\(∀(i:Nat) v d,vs[i]?=some v->ds[i]?=some d->Rd J v d)/\l'.length=l.length
 | [],l,I,vs,ds,l',O,k,N,j=>by
  simp[dq]at j;obtain⟨rfl,rfl⟩:=j
  have:vs=[]:=j1 (by simpa using k)
  subst this
  exact⟨I,.refl ..,O,rfl,by simp,rfl⟩
 |t::ts,l,I,vs,ds,l',O,k,N,j=>by
  match vs,k with
  |v::vs,k=>
   simp only[dq]at j
   cases G:cV l t with
   |none=>simp[G]at j
   |some p=>
    obtain⟨x,l1⟩:=p
    simp only[G]at j
    cases M:dq l1 ts with
    |none=>simp[M]at j
    |some q=>
     obtain⟨xs,ad⟩:=q
     simp only[M,c4,e0]at j
     obtain⟨rfl,rfl⟩:=j
     obtain⟨Z,U,ag,ai,n1⟩:=Om O (N 0 v t rfl rfl) G
     obtain⟨aa,Y,ah,ae,af,aj⟩:=HL ts l1 Z vs xs ad ag (by simpa using k) (λi v t ab ht=>(N (i+1) v t (by simpa using ab) (by simpa using ht)).mono U) M
     refine⟨aa,U.trans Y,ah,by simp[ae],λi u d F B=>?_,by omega⟩
     rcases i with _|i
     ·simp at F B;subst F;subst B;exact ai.mono Y.dg
     simp at F B;exact af i u d F B
def GV{l:List AO}{t:T}{x:D}{l':List AO}(k:jC l t=true)(h:cV l t=some (x,l')):l'=l:=by
 cases t<;>simp[jC,cV]at k h
 ·exact h.2.symm
 ·exact h.2.symm
 ·rename_i id
  cases j:l[id]? with
  |none=>simp[j]at k
  |some o=>cases o<;>simp[j]at k h;exact h.2.symm
 ·rename_i id
  cases j:l[id]? with
  |none=>simp[j]at k
  |some o=>cases o<;>simp[j]at k h;exact h.2.symm
 exact h.2.symm
def HM:∀(ts:List T){l:List AO}{ds:List D}{l':List AO},ts.all (jC l)=true->dq l ts=some (ds,l')->l'=l
 | [],l,ds,l',_,h=>by simp[dq]at h;exact h.2.symm
 |t::ts,l,ds,l',B,h=>by
  simp only[List.all_cons,db]at B
  simp only[dq]at h
  cases j:cV l t with
  |none=>simp[j]at h
  |some p=>
   obtain⟨x,l1⟩:=p
   simp only[j]at h
   have:=GV B.1 j
   subst this
   cases k:dq l1 ts with
   |none=>simp[k]at h
   |some q=>
    obtain⟨xs,F⟩:=q
    simp only[k,c4,e0]at h
    rw[<-h.2];exact HM ts B.2 k
def Oj{l L:List AO}(B:eH l L){t:T}{x:D}{l':List AO}(k:jC l t=true)(h:cV l t=some (x,l')):cV L t=some (x,L)/\jC L t=true:=by
 cases t<;>simp[jC,cV]at k h⊢
 ·exact h.1
 ·exact h.1
 ·rename_i id
  cases j:l[id]? with
  |none=>simp[j]at k
  |some o=>cases o<;>simp[j]at k h;simp[B.get j,h.1]
 ·rename_i id
  cases j:l[id]? with
  |none=>simp[j]at k
  |some o=>cases o<;>simp[j]at k h;simp[B.get j,h.1]
 exact h.1
def HJ:∀(ts:List T){l L:List AO}{ds:List D}{l':List AO},eH l L->ts.all (jC l)=true->dq l ts=some (ds,l')->dq L ts=some (ds,L)
 | [],l,L,ds,l',_,_,h=>by simp[dq]at h⊢;exact h.1
 |t::ts,l,L,ds,l',F,k,h=>by
  simp only[List.all_cons,db]at k
  simp only[dq]at h⊢
  cases j:cV l t with
  |none=>simp[j]at h
  |some p=>
   obtain⟨x,l1⟩:=p
   simp only[j]at h
   have:=GV k.1 j
   subst this
   cases B:dq l1 ts with
   |none=>simp[B]at h
   |some q=>
    obtain⟨xs,G⟩:=q
    simp only[B,c4,e0]at h
    rw[(Oj F k.1 j).1]
    simp only[HJ ts F k.2 B,h.1]
def XO{l L:List AO}(B:eH l L){t:T}(k:jC l t=true):jC L t=true:=by
 cases t<;>simp[jC]at k⊢
 ·rename_i id
  cases j:l[id]? with
  |none=>simp[j]at k
  |some o=>cases o<;>simp[j]at k;simp[B.get j]
 rename_i id
 cases j:l[id]? with
 |none=>simp[j]at k
 |some o=>cases o<;>simp[j]at k;simp[B.get j]
def Yp{v:Value}{ts:List T}(h:ar I m l v (.agg ts)):∃vs:Array Value,v=.agg vs/\vs.size=ts.length/\(∀(i:Nat) v,vs[i]?=some v->v.oneCell'=true)/\∀(i:Nat) v t,vs[i]?=some v->ts[i]?=some t->ar I m l v t:=by
 cases h with
 |agg vs _ j k B=>exact⟨vs,rfl,j,k,B⟩
def xQ{l:List AO}{ts:List T}{x:D}{l':List AO}(h:dx l (.agg ts)=some (x,l')):∃ds,x=.agg ds/\dq l ts=some (ds,l'):=by
 simp only[dx]at h
 cases j:dq l ts with
 |none=>rw[j]at h;cases h
 |some p=>
  obtain⟨ds,l1⟩:=p
  rw[j]at h;simp at h
  exact⟨ds,h.1.symm,by rw[h.2]⟩
def xR{l:List AO}{t:T}(h:∀ts,t ≠ .agg ts):dx l t=cV l t:=by cases t<;>first|rfl|exact absurd rfl (h _)
def Mo{l:List AO}{t:T}(h:∀ts,t ≠ .agg ts):nM l t=jC l t:=by cases t<;>first|rfl|exact absurd rfl (h _)
theorem sD(F:aH w0 I0 w I m l){v:Value}{t:T}{x:D}{l':List AO}(ht:ar I m l v t)(j:dx l t=some (x,l')):∃J,Le I m l J m l'/\aH w0 I0 w J m l'/\Rd J v x/\l'.length=l.length:=by
 by_cases B:∃ts,t=.agg ts
 ·obtain⟨ts,rfl⟩:=B
  obtain⟨ds,rfl,U⟩:=xQ j
  obtain⟨vs,rfl,M,N,O⟩:=Yp ht
  obtain⟨J,le,ab,Y,G,aa⟩:=HL ts l I vs.toList ds l' F (by simpa using M) (λi v t k ht=>O i v t (by simpa using k) ht) U
  have Z:vs.size=ds.length:=by simpa using Y
  refine⟨J,le,ab,.agg vs ds Z (λd j=>?_) (λi v d k j=>G i v d (by simpa using k) j),aa⟩
  obtain⟨i,hi,rfl⟩:=gT.1 j
  have k:vs[i]?=some (vs[i]'(by omega)):=e7 (by omega)
  exact(G i _ _ (by simpa using k) (c3 hi)).LV (N i _ k)
 rw[xR λts h=>B ⟨ts,h⟩]at j
 exact Om F ht j
def oa:∀(ts:List T)(l:List AO)(I:ay)(vs:List Value)(ds:List D)(l':List AO),aH w0 I0 w I m l->vs.length=ts.length->(∀(i:Nat) v t,vs[i]?=some v->ts[i]?=some t->ar I m l v t)->fh l ts=some (ds,l') ->
  ∃J,Le I m l J m l'/\aH w0 I0 w J m l'/\vs.length=ds.length/\(∀(i:Nat) v d,vs[i]?=some v->ds[i]?=some d->Rd J v d)/\l'.length=l.length
 | [],l,I,vs,ds,l',O,k,N,j=>by
  simp[fh]at j;obtain⟨rfl,rfl⟩:=j
  have:vs=[]:=j1 (by simpa using k)
  subst this
  exact⟨I,.refl ..,O,rfl,by simp,rfl⟩
 |t::ts,l,I,vs,ds,l',O,k,N,j=>by
  match vs,k with
  |v::vs,k=>
   simp only[fh]at j
   cases G:dx l t with
   |none=>simp[G]at j
   |some p=>
    obtain⟨x,l1⟩:=p
    simp only[G]at j
    cases M:fh l1 ts with
    |none=>simp[M]at j
    |some q=>
     obtain⟨xs,ad⟩:=q
     simp only[M,c4,e0]at j
     obtain⟨rfl,rfl⟩:=j
     obtain⟨Z,U,ag,ai,n1⟩:=sD O (N 0 v t rfl rfl) G
     obtain⟨aa,Y,ah,ae,af,aj⟩:=oa ts l1 Z vs xs ad ag (by simpa using k) (λi v t ab ht=>(N (i+1) v t (by simpa using ab) (by simpa using ht)).mono U) M
     refine⟨aa,U.trans Y,ah,by simp[ae],λi u d F B=>?_,by omega⟩
     rcases i with _|i
     ·simp at F B;subst F;subst B;exact ai.mono Y.dg
     simp at F B;exact af i u d F B
def aad{l:List AO}{t:T}{x:D}{l':List AO}(k:nM l t=true)(h:dx l t=some (x,l')):l'=l:=by
 by_cases j:∃ts,t=.agg ts
 ·obtain⟨ts,rfl⟩:=j
  obtain⟨ds,rfl,B⟩:=xQ h
  exact HM ts k B
 rw[xR λts h=>j ⟨ts,h⟩]at h
 rw[Mo λts h=>j ⟨ts,h⟩]at k
 exact GV k h
def aab{l L:List AO}(B:eH l L){t:T}{x:D}{l':List AO}(j:nM l t=true)(h:dx l t=some (x,l')):dx L t=some (x,L)/\nM L t=true:=by
 by_cases k:∃ts,t=.agg ts
 ·obtain⟨ts,rfl⟩:=k
  obtain⟨ds,rfl,F⟩:=xQ h
  refine⟨by simp only[dx,HJ ts B j F],?_⟩
  simp only[nM,dT]at j⊢
  intro t ht
  exact XO B (j t ht)
 rw[xR λts h=>k ⟨ts,h⟩]at h⊢
 rw[Mo λts h=>k ⟨ts,h⟩]at j⊢
 exact Oj B j h
def HO:∀(ts:List T){l L:List AO}{ds:List D}{l':List AO},eH l L->ts.all (nM l)=true->fh l ts=some (ds,l')->fh L ts=some (ds,L)
 | [],l,L,ds,l',_,_,h=>by simp[fh]at h⊢;exact h.1
 |t::ts,l,L,ds,l',F,k,h=>by
  simp only[List.all_cons,db]at k
  simp only[fh]at h⊢
  cases j:dx l t with
  |none=>simp[j]at h
  |some p=>
   obtain⟨x,l1⟩:=p
   simp only[j]at h
   have:=aad k.1 j
   subst this
   cases B:fh l1 ts with
   |none=>simp[B]at h
   |some q=>
    obtain⟨xs,G⟩:=q
    simp only[B,c4,e0]at h
    rw[(aab F k.1 j).1]
    simp only[HO ts F k.2 B,h.1]
end
end Go.ag
namespace Go.ag
open Go Go.RowKit
variable [bq]
def cg(P:Program)(w0:World)(I0:ay)(o:Oper)(ρ:Operand->Value)(w:World)(I:ay)(m:Nat->Value)(l L:List AO)(nid:Nat)(r:R):Prop:=
 match r.bA with
 |.none=>cp P ((execOp ρ o).run P w) λv w'=>∃J,Le I m L J m L/\aH w0 I0 w' J m L/\ar J m L v r.t
 |.new a=>L[nid]?=some .dead->cp P ((execOp ρ o).run P w) λv w'=>∃m',Le I m L I m' (L.set nid a)/\aH w0 I0 w' I m' (L.set nid a)/\ar I m' (L.set nid a) v r.t
 |.aP l'=>L=l->nid=l.length->cp P ((execOp ρ o).run P w) λv w'=>∃J m',Le I m l J m' l'/\aH w0 I0 w' J m' l'/\ar J m' l' v r.t
section
variable {P:Program}{V:Env}{w0 w:World}{I0 I:ay}{m:Nat->Value}{l L:List AO}{nid:Nat}{o:Oper}{ρ:Operand->Value}{ρT:Operand->T}
theorem cg.val(B:aH w0 I0 w I m L){r:R}{u:Value}(j:r.bA=.none)(F:(execOp ρ o).run P w=.ok (.value u) w)(k:ar I m L u r.t):cg P w0 I0 o ρ w I m l L nid r:=by
 unfold cg
 rw[j]
 simp only[F,cp]
 exact⟨I,.refl ..,B,k⟩
def cz{v:Value}{x:D}(h:ar I m L v (.d x)):Rd I v x:=by cases h;assumption
def xx{v:Value}{pc:List (Nat×Bool×Bool)}{t:T}(h:ar I m L v (.cond pc t))(k:holds pc):ar I m L v t:=by cases h;rename_i _ j;exact j k
def FV(Y:aH w0 I0 w I m L){c a b:Operand}(G:o.op=.pick c a b)(U:∀x∈o.op.operands,ar I m L (ρ x) (ρT x))(j:(nI (ρT c) (ρT a) (ρT b)).ob) :
  cg P w0 I0 o ρ w I m l L nid (nI (ρT c) (ρT a) (ρT b)):=by
 have ae:=U c (by simp[G,Op.operands])
 have N:=U a (by simp[G,Op.operands])
 have O:=U b (by simp[G,Op.operands])
 generalize ρT c=ah at *;generalize ρT a=af at *;generalize ρT b=ag at *
 unfold nI at j⊢
 split at j
 ·rename_i M
  have:=cz ae
  generalize ab:ρ c=ai at *
  cases this
  simp only at j⊢
  split at j
  ·rename_i x p y q k B
   have Z:M=true->Rd I (ρ a) (.bool x):=by
    intro F
    split at k
    ·simp at k;obtain⟨rfl,_⟩:=k;exact cz N
    ·rename_i pc ad
     simp only[c4,e0]at k;obtain⟨rfl,rfl⟩:=k
     exact cz (xx N (j.1 F))
    cases k
   have aa:M=false->Rd I (ρ b) (.bool y):=by
    intro F
    split at B
    ·simp at B;obtain⟨rfl,_⟩:=B;exact cz O
    ·rename_i pc ad
     simp only[c4,e0]at B;obtain⟨rfl,rfl⟩:=B
     exact cz (xx O (j.2 F))
    cases B
   refine cg.val Y rfl (u:=if M=true then ρ a else ρ b) ?_ ?_
   ·unfold execOp;simp only[G,ab,asBool,fv,Sem.run_pure,Result.andThen_ok]
   cases M with
   |true=>simpa using ar.d _ _ (Z rfl)
   |false=>simpa using ar.d _ _ (aa rfl)
  ·rename_i x p k B
   obtain⟨F,j⟩:=j
   subst F
   have Z:Rd I (ρ a) (.bool x):=by
    split at k
    ·simp at k;obtain⟨rfl,_⟩:=k;exact cz N
    ·rename_i pc ad
     simp only[c4,e0]at k;obtain⟨rfl,rfl⟩:=k
     exact cz (xx N (j trivial))
    cases k
   refine cg.val Y rfl (u:=ρ a) ?_ (.d _ _ Z)
   unfold execOp;simp only[G,ab,asBool,fv,Sem.run_pure,Result.andThen_ok,hK]
  ·rename_i y q k B
   obtain⟨F,j⟩:=j
   subst F
   have aa:Rd I (ρ b) (.bool y):=by
    split at B
    ·simp at B;obtain⟨rfl,_⟩:=B;exact cz O
    ·rename_i pc ad
     simp only[c4,e0]at B;obtain⟨rfl,rfl⟩:=B
     exact cz (xx O (j trivial))
    cases B
   refine cg.val Y rfl (u:=ρ b) ?_ (.d _ _ aa)
   unfold execOp;simp only[G,ab,asBool,fv,Sem.run_pure,Result.andThen_ok,hQ,h8]
  exact j.elim
 exact j.elim
def II{v:Value}{x:T}(af:ar I m L v x)(N:(bx x).all T.fS=true):v.cells.toList.length=(bx x).length/\(∀u∈v.cells.toList,u.oneCell'=true)/\∀(i:Nat) u t,v.cells.toList[i]?=some u->(bx x)[i]?=some t->ar I m L u t:=by
 have one:∀(u:Value),u.oneCell'=true->u.cells.toList=[u]:=λu F=>by cases u<;>simp_all [Value.oneCell',Value.cells]
 have G:∀(t:T),bx t=[t]->ar I m L v t->v.oneCell'=true->v.cells.toList.length=(bx t).length/\(∀u∈v.cells.toList,u.oneCell'=true)/\∀(i:Nat) u s,v.cells.toList[i]?=some u->(bx t)[i]?=some s->ar I m L u s:=by
  intro t ht ae ab
  rw[one v ab,ht]
  refine⟨rfl,by simpa using ab,λi u s F aa=>?_⟩
  rcases i with _|i
  ·simp at F aa;subst F;subst aa;exact ae
  simp at F
 cases af with
 |undef=>simp[bx,T.fS]at N
 |d _ d ad=>
  by_cases ht:∃ds,d=.aN ds
  ·obtain⟨ds,rfl⟩:=ht;simp[bx,D.cells,T.fS,D.one]at N
  obtain⟨j,B,M⟩:=ad.cells (λds e=>ht ⟨ds,e⟩)
  refine⟨by simp[bx,j],λu F=>?_,λi u t F O=>?_⟩
  ·obtain⟨i,hi,rfl⟩:=gT.1 F
   have Z:i<d.cells.length:=by simp at hi;omega
   exact(M i _ d.cells[i] (by rw[<-j3];exact c3 hi) (c3 Z)).one (B _ (h6 Z))
  simp only[bx,et]at O
  cases U:d.cells[i]? with
  |none=>simp[U]at O
  |some y=>
   simp[U]at O
   subst O
   exact .d _ _ (M i u y (by simpa using F) U)
 |bC s=>exact G _ rfl (.bC s) rfl
 |ptr id b off j B=>exact G _ rfl (.ptr id b off j B) rfl
 |bB b o size els k off val j B M Y=>exact G _ rfl (.bB b o size els k off val j B M Y) rfl
 |aN=>simp[bx,T.fS]at N
 |cond=>simp[bx,T.fS]at N
 |row A n c id j B=>exact G _ rfl (.row A n c id j B) rfl
 |bJ A n c id x j B M=>exact G _ rfl (.bJ A n c id x j B M) rfl
 |bw a id k off j B=>exact G _ rfl (.bw a id k off j B) rfl
 |map r id j B=>exact G _ rfl (.map r id j B) rfl
 |aD g vs ts j B=>exact G _ rfl (.aD g vs ts j B) rfl
 |bf id b j B=>exact G _ rfl (.bf id b j B) rfl
 |cE id b n c j B M Y=>exact G _ rfl (.cE id b n c j B M Y) rfl
 |sub A n c id lo hi j B=>exact G _ rfl (.sub A n c id lo hi j B) rfl
 |agg vs ts j B M=>
  refine⟨by simp[bx,Value.cells,j],λu F=>?_,λi u t F ht=>M i u t (by simpa [Value.cells]using F) (by simpa [bx]using ht)⟩
  obtain⟨i,hi,rfl⟩:=gT.1 F
  simp only[Value.cells]at hi⊢
  exact B i _ (by rw[<-j3];exact c3 hi)
def Lr(k:aH w0 I0 w I m L)(j:L[nid]?=some .dead){ty:TypeId}{vs:Array Value}{cs:List T}(M:vs.toList.length=cs.length)(G:∀u∈vs.toList,u.oneCell'=true)(O:∀(i:Nat) u t,vs.toList[i]?=some u->cs[i]?=some t->ar I m L u t) :
  ∃m',Le I m L I m' (L.set nid (.var ty cs))/\aH w0 I0 (w.alloc (.cells vs ty)) I m' (L.set nid (.var ty cs))/\ar I m' (L.set nid (.var ty cs)) (.pointer (some ⟨w.heap.size,0,none⟩)) (.ptr nid 0):=by
 have B:Le I m L I (aP m nid (.pointer (some ⟨w.heap.size,0,none⟩))) (L.set nid (.var ty cs)):=Le.new j rfl
 have N:nid<L.length:=(c5.1 j).1
 refine⟨_,B,k.alloc _ j rfl rfl ⟨w.heap.size,vs,rfl,k.below.size,vt w _,by simpa using M,λi x t F ht=>?_,k.sat.dY (eb _)⟩,?_⟩
 ·exact⟨(O i x t (by simpa using F) ht).mono B,G x (dk (by simpa using F:vs.toList[i]?=some x))⟩
 exact .ptr nid _ 0 (by unfold isVar;rw[e4,if_pos rfl,if_pos N];rfl) (dM m nid _)
def R9(O:aH w0 I0 w I m L){e:TypeId}{x:Operand}(M:o.op=.box e x)(N:ar I m L (ρ x) (ρT x))(F:(bx (ρT x)).all T.fS=true) :
  cg P w0 I0 o ρ w I m l L nid ⟨.ptr nid 0,.new (.var e (bx (ρT x))),(bx (ρT x)).all T.fS=true⟩:=by
 intro G
 obtain⟨j,k,B⟩:=II N F
 have U:(execOp ρ o).run P w=.ok (.value (.pointer (some ⟨w.heap.size,0,none⟩))) (w.alloc (.cells (ρ x).cells e)):=by unfold execOp;simp[M,Instr.box,newVar,newRow]
 simp only[U,cp]
 exact Lr O G j k B
def xX:∀{vs:List Value}{ds:List D}{j:Nat}{v:Value}{d:D},fY vs ds=true->vs[j]?=some v->ds[j]?=some d->pk v d=true
 | [],[],_,_,_,_,h,_=>by simp at h
 |v::vs,d::ds,j,u,e,h,hu,k=>by
  simp only[fY,db]at h
  rcases j with _|j
  ·simp at hu k;subst hu;subst k;exact h.1
  simp at hu k;exact xX h.2 hu k
 | [],_::_,_,_,_,h,_,_=>by simp[fY]at h
 |_::_,[],_,_,_,h,_,_=>by simp[fY]at h
def Ho{v:Value}{d:D}(h:pk v d=true):ar I m L v (iO d):=by
 unfold iO
 split
 ·have:v=.slice none 0 0:=by
   cases v<;>simp[pk]at h
   rename_i a n c
   cases a<;>cases n<;>cases c<;>simp_all [pk]
  subst this;exact .bC _
 exact .d _ _ (Hn I h).1
def O8(N:cq P V.E)(Z:aH w0 I0 w I m L){e:TypeId}{i:TI}(Y:o.op=.alloc e)(hi:V.E e=some i) :
  cg P w0 I0 o ρ w I m l L nid ⟨.ptr nid 0,.new (.var e (i.zero.map iO)),True⟩:=by
 intro U
 obtain⟨z,M,F,af,ag⟩:=xD N hi w
 obtain⟨ab,ad,ae⟩:=po I _ _ F
 have aa:(execOp ρ o).run P w=.ok (.value (.pointer (some ⟨w.heap.size,0,none⟩))) (w.alloc (.cells z.cells e)):=by unfold execOp;simp[Y,Instr.alloc,M,newVar,newRow]
 simp only[aa,cp]
 refine Lr Z U (by simpa using ab) (λu k=>?_) (λj u t k ht=>?_)
 ·obtain⟨j,O,rfl⟩:=gT.1 k
  have G:j<i.zero.length:=by omega
  exact(ae j _ _ (c3 O) (c3 G)).one (ad _ (h6 G))
 rw[et]at ht
 cases B:i.zero[j]? with
 |none=>simp[B]at ht
 |some d=>simp[B]at ht;subst ht;exact Ho (xX F k B)
theorem Ur(Z:cq P V.E){s:TypeId}{f:Nat}{v:Value}{x:T}(ai:ar I m L v x)(j:(kv V.E s f x).ob) :
  (kv V.E s f x).bA=.none/\∃u,(Instr.fieldAt s v f).run P w=.ok u w/\ar I m L u (kv V.E s f x).t:=by
 have key:∀{a:Addr}{sz U:Nat}{z:List D}{fs:List (Nat×TypeId)}{p:Nat×TypeId},V.E s=some ⟨sz,U,z,.struct fs⟩->fs[f]?=some p->0<bD V.E p.2 ->
   (Instr.fieldAt s (.pointer (some a)) f).run P w=.ok (.pointer (some (a.add p.1))) w:=by
  intro a sz U z fs p G F B
  obtain⟨Y,ah,rfl⟩:=G4 Z G
  rw[et]at F
  cases O:Y.toList[f]? with
  |none=>simp[O]at F
  |some g=>
   simp[O]at F
   subst F
   have ab:Y[f]?=some g:=by simpa using O
   have ag:∃n,(sizeOf g.type).run P w=.ok n w/\n≠0:=by
    cases hi:V.E g.type with
    |none=>simp[bD,hi]at B
    |some i=>exact⟨i.size,kY Z hi w,by simp[bD,hi]at B;omega⟩
   obtain⟨n,ae,af⟩:=ag
   simp[Instr.fieldAt,hD ah,ab,Instr.sureAddr,fieldPlace,ae,af]
 cases ai with
 |ptr id b off M N=>
  simp only[kv]at j⊢
  split at j
  ·rename_i fs G
   split at j
   ·rename_i p F
    split at j
    ·rename_i B
     simp only[if_pos B]
     exact⟨rfl,_,key G F B,by rw[q5];exact .ptr id b _ M N⟩
    exact j.elim
   exact j.elim
  exact j.elim
 |bB b o size els k off val M N aj ak=>
  simp only[kv]at j⊢
  split at j
  ·rename_i fs G
   split at j
   ·rename_i p F
    split at j
    ·rename_i B
     simp only[if_pos B]
     refine⟨rfl,_,key G F B,?_⟩
     rw[q5,r4]
     exact .bB b o size els k _ val M N aj ak
    exact j.elim
   exact j.elim
  exact j.elim
 |bw a id k off M N=>
  simp only[kv]at j⊢
  split at j
  ·rename_i fs G
   split at j
   ·rename_i p F
    split at j
    ·rename_i B
     simp only[if_pos B]
     refine⟨rfl,_,key G F B,.bw _ id k _ M λe size els ad=>?_⟩
     obtain⟨b,n,c,aa,rfl⟩:=N e size els ad
     exact⟨b,n,c,aa,by rw[q5,r4]⟩
    exact j.elim
   exact j.elim
  exact j.elim
 |_=>exact j.elim
end
end Go.ag
namespace Go.ag
open Go Go.RowKit
variable [bq]
section
variable {P:Program}{V:Env}{w0 w:World}{I0 I:ay}{m:Nat->Value}{l L:List AO}{nid:Nat}{o:Oper}{ρ:Operand->Value}{ρT:Operand->T}
theorem Up(G:cq P V.E){s:TypeId}{f:Nat}{v:Value}{x:T}(al:ar I m L v x)(k:(mh V.E s f x).ob) :
  (mh V.E s f x).bA=.none/\∃u,(Instr.field s v f).run P w=.ok u w/\ar I m L u (mh V.E s f x).t:=by
 unfold mh at k⊢
 split at k
 ·rename_i cs
  split at k
  ·rename_i fs aj
   split at k
   ·rename_i p M
    split at k
    ·rename_i i hi
     split at k
     ·rename_i ab
      simp only[if_pos ab]
      have:=cz al
      generalize F:D.agg cs=aq at this
      cases this<;>first| (cases F;done)|skip
      rename_i vs ds an ao ag
      injection F with F;subst F
      obtain⟨Y,af,rfl⟩:=G4 G aj
      rw[et]at M
      cases U:Y.toList[f]? with
      |none=>simp[U]at M
      |some g=>
       simp[U]at M;subst M
       have aa:Y[f]?=some g:=by simpa using U
       simp only at hi ab⊢
       have Z:=Ng G hi
       have ak:=kY G hi
       cases O:i.desc.agg with
       |true=>
        refine⟨rfl,.agg (vs.extract g.offset (g.offset+i.size)),?_,?_⟩
        ·simp only[Instr.field,fv,hD af,Result.andThen_ok,aa,asAgg,Sem.run_pure,part,Z,O,hK,ak]
        simp only[R.ok,eM,hK]
        refine .d _ _ (.agg _ _ (by simp[an];omega) (λd ai=>ao d (sm (na ai))) (λj u d N B=>?_))
        rw[gl]at B
        split at B
        ·rename_i au
         rw[kb]at B
         rw[Array.getElem?_extract]at N
         split at N
         ·exact ag _ u d N B
         cases N
        cases B
       |false=>
        have ah:=BP G hi O
        have ad:g.offset<vs.size:=by omega
        refine⟨rfl,vs[g.offset],?_,?_⟩
        ·simp only[Instr.field,fv,hD af,Result.andThen_ok,aa,asAgg,Sem.run_pure,part,Z,O,hQ,h8,e7 ad]
        have ae:g.offset<cs.length:=by omega
        have:((cs.drop g.offset).take i.size).headD .dX=cs[g.offset]:=by rw[ah,hT ae];rfl
        simp only[R.ok,eM,hQ,h8,this]
        exact .d _ _ (ag g.offset _ _ (e7 ad) (c3 ae))
     exact k.elim
    exact k.elim
   exact k.elim
  exact k.elim
 exact k.elim
def OT{n:Int}(h: -9223372036854775808<=n/\n<=9223372036854775807):IntKind.i64.wrap n=n:=IntWalk.i64_in n (by omega)
def ye{k:IntKind}{n:Int}(h:(arith k n).2):(arith k n).1=.int k (k.wrap n):=by
 cases k<;>simp only[arith]at h⊢
 rw[OT h]
theorem R7(O:qF P V.jA){N:BinOp}{ty:TypeId}{x y:Operand}{u v:Value}{a b:D}(F:Rd I u a)(G:Rd I v b){r:D}{ob:Prop}(h:eS V.jA N ty a b=some (r,ob))(j:ob) :
  ∃z,((do eqGuard N ty x y u v;binOp N ty u v:Sem Value)).run P w=.ok z w/\Rd I z r:=by
 unfold eS at h
 split at h
 ·
  rename_i k p U q
  cases F;cases G
  have Z:∀w,0<=q->((do eqGuard .shr ty x y (.int k p) (.int U q);binOp .shr ty (.int k p) (.int U q):Sem Value)).run P w=.ok (.int k (uS k p q)) w:=λw aa=>by
   have M:(eqGuard .shr ty x y (.int k p) (.int U q)).run P w=.ok () w:=by rw[eqGuard_at_int];rfl
   have:¬q<0:=by omega
   simp only[fv,M,Result.andThen_ok]
   simp[binOp,Op.shift,this,uS]
  split at h
  ·unfold Gz at h
   split at h
   ·simp only[c4,e0]at h
    obtain⟨rfl,rfl⟩:=h
    exact⟨_,Z w j,.int _ _⟩
   cases h
  rename_i B
  have B:k=U:=Decidable.not_not.1 B
  subst B
  have M:∀w,(eqGuard N ty x y (.int k p) (.int k q)).run P w=.ok () w:=λw=>by rw[eqGuard_at_int];rfl
  simp only[fv,M,Result.andThen_ok]
  split at h<;>first| (cases h;done)|skip
  all_goals try simp only[c4,e0]at h
  ·obtain⟨rfl,rfl⟩:=h
   have:=Z w j
   simp only[fv,M,Result.andThen_ok]at this
   exact⟨_,this,.int _ _⟩
  ·obtain⟨rfl,rfl⟩:=h;exact⟨_,by simp[binOp,Op.intBits];rfl,.int _ _⟩
  ·obtain⟨rfl,rfl⟩:=h;exact⟨_,by rw[binOp_add];rfl,by rw[ye j];exact .int _ _⟩
  ·obtain⟨rfl,rfl⟩:=h;exact⟨_,by rw[binOp_sub];rfl,by rw[ye j];exact .int _ _⟩
  ·obtain⟨rfl,rfl⟩:=h;exact⟨_,by rw[binOp_mul];rfl,by rw[ye j];exact .int _ _⟩
  ·split at h
   ·simp only[c4,e0]at h
    obtain⟨rfl,rfl⟩:=h
    refine⟨.int .i64 (IntKind.i64.wrap (p.tdiv q)),by rw[binOp_quo];simp[Op.intDiv,j.1],?_⟩
    rw[OT (by have:=j.2;omega)];exact .int _ _
   cases h
  ·obtain⟨rfl,rfl⟩:=h
   refine⟨.int k (p.tmod q),by rw[binOp_rem];simp[Op.intDiv,show q≠0 from j],?_⟩
   exact .int _ _
  ·obtain⟨rfl,rfl⟩:=h;exact⟨_,by rw[binOp_eql];rfl,by rw[show(p == q)=decide (p=q) by rw[hC];simp];exact .bool _⟩
  ·obtain⟨rfl,rfl⟩:=h;exact⟨_,by rw[binOp_neq];rfl,by rw[show(p != q) = !decide (p=q) by rw[hC];simp[bne]];exact .bool _⟩
  ·obtain⟨rfl,rfl⟩:=h;exact⟨_,by rw[binOp_lss];rfl,.bool _⟩
  ·obtain⟨rfl,rfl⟩:=h;exact⟨_,by rw[binOp_leq];rfl,.bool _⟩
  ·obtain⟨rfl,rfl⟩:=h;exact⟨_,by rw[binOp_gtr];rfl,.bool _⟩
  obtain⟨rfl,rfl⟩:=h;exact⟨_,by rw[binOp_geq];rfl,.bool _⟩
 ·
  rename_i p q
  split at h
  ·split at h
   ·rename_i B
    simp only[c4,e0]at h;obtain⟨rfl,rfl⟩:=h
    exact⟨_,O ty _ B .eql x y I u v _ _ w F G (.inl ⟨_,_,rfl,rfl,rfl⟩) (.inl rfl),by simp[gz];exact .bool _⟩
   cases h
  ·split at h
   ·rename_i B
    simp only[c4,e0]at h;obtain⟨rfl,rfl⟩:=h
    exact⟨_,O ty _ B .neq x y I u v _ _ w F G (.inl ⟨_,_,rfl,rfl,rfl⟩) (.inr rfl),by simp[gz];exact .bool _⟩
   cases h
  cases h
 ·
  rename_i p q
  cases F;cases G
  have M:∀w,(eqGuard N ty x y (.string p) (.string q)).run P w=.ok () w:=λw=>by rw[eqGuard_at_string];rfl
  simp only[fv,M,Result.andThen_ok]
  split at h<;>first| (cases h;done)|skip
  all_goals simp only[c4,e0]at h;obtain⟨rfl,rfl⟩:=h
  ·exact⟨.bool (p == q),by rw[abx];simp[binOp,Op.stringOp],.bool _⟩
  ·exact⟨.bool (!(p == q)),by rw[abx];simp[binOp,Op.stringOp],.bool _⟩
  exact⟨.string (p++q),by simp[binOp,Op.stringOp,j],.str _⟩
 ·
  rename_i xs ys
  split at h
  ·split at h
   ·rename_i ls B
    split at h
    ·cases h
    rename_i Y
    simp only[c4,e0]at h;obtain⟨rfl,rfl⟩:=h
    exact⟨_,O ty _ B .eql x y I u v _ _ w F G (.inr ⟨_,_,rfl,rfl,Y,j.1,j.2⟩) (.inl rfl),by simp[gz];exact .bool _⟩
   cases h
  ·split at h
   ·rename_i ls B
    split at h
    ·cases h
    rename_i Y
    simp only[c4,e0]at h;obtain⟨rfl,rfl⟩:=h
    exact⟨_,O ty _ B .neq x y I u v _ _ w F G (.inr ⟨_,_,rfl,rfl,Y,j.1,j.2⟩) (.inr rfl),by simp[gz];exact .bool _⟩
   cases h
  cases h
 cases h
theorem aan{k:UnOp}{u:Value}{a:D}(j:Rd I u a){r:D}{ob:Prop}(h:ve k a=some (r,ob))(B:ob):∃z,(Op.unary k u).run P w=.ok z w/\Rd I z r:=by
 unfold ve at h
 split at h
 ·cases j
  split at h
  ·simp only[c4,e0]at h;obtain⟨rfl,rfl⟩:=h
   exact⟨_,by simp only[Op.unary,Sem.run_pure],.bool _⟩
  cases h
 ·cases j
  split at h
  ·simp only[c4,e0]at h;obtain⟨rfl,rfl⟩:=h
   exact⟨_,by simp[Op.unary,Op.intArith];rfl,by rw[ye B];simp;exact .int _ _⟩
  cases h
 cases h
def Vk(ad:cq P V.E)(aA:aH w0 I0 w I m L)(ax:eH l L){t:TypeId}{v ah:Value}{x i:T}(aq:ar I m L v x)(hi:ar I m L ah i)(B:(jV V.E t l x i).ob) :
  (jV V.E t l x i).bA=.none/\∃u,(Instr.indexAt t v ah).run P w=.ok u w/\ar I m L u (jV V.E t l x i).t:=by
 unfold jV at B⊢
 split at B
 ·rename_i e k n al G
  have ao:ah=.int k n:=by
   unfold dm at G
   split at G
   ·simp at G;obtain⟨rfl,rfl⟩:=G;have:=cz hi;cases this;rfl
   cases G
  subst ao
  have an:=l4 ad al
  have key:∀(a:Addr)(len ai:Nat),0<=n->n<len->∀z,(V.E e).map TI.size=some z->(Instr.indexAt t (.slice (some a) len ai) (.int k n)).run P w=.ok (.pointer (some (a.add (n.toNat*z)))) w:=by
   intro a len ai U O z aa
   cases N:V.E e with
   |none=>simp[N]at aa
   |some au=>
    simp[N]at aa
    simp[Instr.indexAt,hD an,asIntOf,U,O,kY ad N,aa]
  have az:∀{size:Nat},size=bD V.E e/\0<size->(V.E e).map TI.size=some size:=by
   intro size F
   unfold bD at F
   cases N:V.E e with
   |none=>simp[N]at F;omega
   |some au=>simp[N]at F;simp[F.1]
  split at B
  ·rename_i size els
   split at B
   ·rename_i F
    simp only[if_pos F]
    obtain⟨U,O⟩:=B
    have:=cz aq
    generalize aj:D.slice size els=aJ at this
    cases this<;>first| (cases aj;done)|skip
    ·injection aj with aw ak;subst ak;simp at O;omega
    rename_i b off len c aM els' val Y Z ag av aG aI
    injection aj with aw ak;subst aw;subst ak
    refine⟨trivial,_,key _ len c U (by omega) size (az F),?_⟩
    rw[q5]
    have:=ar.bB (I:=I) (m:=m) (l:=L) b off size els n.toNat 0 val (by omega) av (λj aB=>aG j (by rw[<-Y];exact aB)) aI
    simpa using this
   exact B.elim
  ·rename_i id
   have go:∀M size els,l[id]?=some (.row M size els)\/l[id]?=some (.br M size els)->size=bD V.E e/\0<size->0<=n/\n<els.length ->
     ∃u,(Instr.indexAt t v (.int k n)).run P w=.ok u w/\ar I m L u (.bw id n.toNat 0):=by
    intro M size els ho F ⟨U,O⟩
    have ae:L[id]?=some (.row M size els)\/L[id]?=some (.br M size els):=by rcases ho with ho|ho;exact .inl (ax.get ho);exact .inr (ax.get ho)
    have aE:∃A af c,v=.slice A af c/\m id=v:=by
     cases aq with
     |row A af c _ Y Z=>exact⟨A,af,c,rfl,Z (by unfold isRow;rcases ae with h|h<;>simp[h,AO.isRow])⟩
    obtain⟨A,af,c,rfl,aC⟩:=aE
    have aD:∃xs,w.ownsRow w0.heap.size M size (m id) els.length xs:=by
     rcases ae with h|h
     ·obtain⟨xs,ab,_⟩:=aA.obj id _ h;exact⟨xs,ab⟩
     obtain⟨xs,ab,_⟩:=aA.obj id _ h;exact⟨xs,ab⟩
    obtain⟨xs,ab⟩:=aD
    rcases ab.2 with ⟨_,q⟩| ⟨g,ai,cur,q,_⟩
    ·simp[q]at O;omega
    have aF:=aC.symm.trans q
    injection aF with Y Z ag
    subst Y;subst Z;subst ag
    refine⟨_,key _ _ _ U O size (az F),.bw _ id _ 0 ?_ λaK s1 aL hl=>⟨g,els.length,_,q,?_⟩⟩
    ·rcases ae with h|h<;>exact(c5.1 h).1
    have:s1=size:=by rcases ae with h|h<;>rcases hl with hl|hl<;>rw[h]at hl<;>cases hl<;>rfl
    subst this
    rw[q5];simp
   split at B
   ·rename_i M size els ho
    split at B
    ·rename_i F
     simp only[if_pos F]
     exact⟨trivial,go M size els (.inl ho) F B⟩
    exact B.elim
   ·rename_i M size els ho
    split at B
    ·rename_i F
     simp only[if_pos F]
     exact⟨trivial,go M size els (.inr ho) F B⟩
    exact B.elim
   exact B.elim
  exact B.elim
 ·rename_i len e k n al G
  have ao:ah=.int k n:=by
   unfold dm at G
   split at G
   ·simp at G;obtain⟨rfl,rfl⟩:=G;have:=cz hi;cases this;rfl
   cases G
  subst ao
  have an:=BZ ad al
  split at B
  ·rename_i size els q off
   split at B
   ·rename_i ay
    simp only[if_pos ay]
    obtain⟨U,O⟩:=B
    obtain⟨au,N⟩:=kd.1 ay
    cases aq with
    |bB b o _ _ _ _ val Y Z ag av=>
     refine⟨trivial,.pointer (some ⟨b,o+q*size+(off+n.toNat*bD V.E e),none⟩),?_,.bB b o size els q _ val Y Z ag av⟩
     have aa:bD V.E e=au.size:=by simp[bD,N]
     simp[Instr.indexAt,Instr.sureAddr,hD an,asIntOf,U,O,kY ad N,aa,q5,r4]
   exact B.elim
  exact B.elim
 exact B.elim
end
end Go.ag
namespace Go.ag
open Go Go.RowKit
variable [bq]
def Uy{size:Nat}(els:List D)(j:∀d∈els,d.cells.length=size)(k:Nat):flat (els.drop k)=(flat els).drop (k*size):=by
 induction els generalizing k with
 |nil=>simp[flat]
 |cons e els G=>
  have F:=j e (by simp)
  rcases k with _|k
  ·simp
  simp only[List.drop_succ_cons]
  rw[G (λd B=>j d (by simp[B])) k]
  simp only[flat,hM]
  rw[show(k+1)*size=e.cells.length+k*size by rw[F,qd];omega,<-ti,List.drop_left]
def JO{size:Nat}(els:List D)(j:∀d∈els,d.cells.length=size)(k:Nat):flat (els.take k)=(flat els).take (k*size):=by
 induction els generalizing k with
 |nil=>simp[flat]
 |cons e els G=>
  have F:=j e (by simp)
  rcases k with _|k
  ·simp[flat]
  simp only[List.take_succ_cons]
  have:=G (λd B=>j d (by simp[B])) k
  simp only[flat,hM]at this⊢
  rw[show(k+1)*size=e.cells.length+k*size by rw[F,qd];omega,List.take_length_add_append,this]
def Dp(a b:List D):flat (a++b)=flat a++flat b:=by simp[flat]
section
variable {P:Program}{V:Env}{w0 w:World}{I0 I:ay}{m:Nat->Value}{l L:List AO}{nid:Nat}{o:Oper}{ρ:Operand->Value}{ρT:Operand->T}
def ML{A:Option Addr}{n c lo hi size:Nat}{els:List D}(h:Rd I (.slice A n c) (.slice size els))(ad:lo<=hi)(M:hi<=els.length) :
  n=els.length/\n<=c/\Rd I (.slice (if c=lo then A else A.map (·.add (lo*size))) (hi-lo) (c-lo)) (.slice size ((els.take hi).drop lo)):=by
 cases h with
 |kf A c size N=>
  have:hi=0:=by simpa using M
  subst this
  have:lo=0:=by omega
  subst this
  refine⟨rfl,j2 _,?_⟩
  simpa using Rd.kf (I:=I) _ c size N
 |slice b off n c size els val Y Z af G aa ab=>
  refine⟨Y.symm,Z,?_⟩
  by_cases O:lo=hi
  ·subst O
   have:(els.take lo).drop lo=[]:=by simp
   rw[this,Nat.sub_self]
   exact .kf _ _ _ (by omega)
  have U:c≠lo:=by omega
  rw[if_neg U]
  simp only[Option.map_some,q5]
  have F:∀d∈els,d.cells.length=size:=λd j=>(G d j).1
  refine .slice b (off+lo*size) (hi-lo) (c-lo) size _ (λk=>val (lo*size+k)) (by simp;omega) (by omega) (by omega) (λd j=>G d (na (sm j))) (λk ae=>?_) (λk x B=>?_)
  ·rw[r4]
   apply aa
   have:lo*size+(hi-lo)*size=hi*size:=by rw[<-qd];congr 1;omega
   have:hi*size<=n*size:=ka _ (by omega)
   omega
  rw[Uy _ (λd j=>F d (na j)),JO _ F,kb,gl]at B
  split at B
  ·exact ab _ x B
  cases B
theorem NH(Z:cq P V.E){t e:TypeId}{sz ag:Nat}{z:List D}(an:V.E t=some ⟨sz,ag,z,.slice e⟩){v:Value}{x:T}{lo hi:Option Operand}(aw:ar I m L v x)(ad:∀a,lo=some a->ar I m L (ρ a) (ρT a))(aa:∀a,hi=some a->ar I m L (ρ a) (ρT a))(au:∀size els,x=.d (.slice size els)->size=bD V.E e/\(V.E e).isSome=true)(j:(jH x (lo.map ρT) (hi.map ρT)).ob) :
  (jH x (lo.map ρT) (hi.map ρT)).bA=.none/\∃u,(Instr.sliceAt t v (lo.map ρ) (hi.map ρ) none).run P w=.ok u w/\ar I m L u (jH x (lo.map ρT) (hi.map ρT)).t:=by
 have af:=l4 Z an
 have F:P.underlying t=some (.slice (P.elem t)):=by simp[Program.elem,af]
 have ak:P.elem t=e:=by simp[Program.elem,af]
 have hint:∀{a:T}{k:IntKind}{n:Int}{v:Value},dm a=some (k,n)->ar I m L v a->v=.int k n:=by
  intro a k n v B al
  unfold dm at B
  split at B
  ·simp at B;obtain⟨rfl,rfl⟩:=B;have:=cz al;cases this;rfl
  cases B
 unfold jH at j⊢
 split at j
 ·rename_i size els
  obtain⟨ao,aq⟩:=au size els rfl
  have Y:=cz aw
  obtain⟨A,n,c,rfl⟩:∃A n c,v=.slice A n c:=by cases Y<;>exact⟨_,_,_,rfl⟩
  obtain⟨ay,ab⟩:=kd.1 aq
  have ax:ay.size=size:=by rw[ao];simp[bD,ab]
  have N:(sizeOf (P.elem t)).run P w=.ok size w:=by rw[ak,kY Z ab,ax]
  have M:∀a b,(Instr.sliceAt t (.slice A n c) a b none).run P w=(Instr.slice t (.slice A n c) a b none).run P w:=λa b=>abo w t _ a b none F
  have fin:∀lo hi:Nat,lo<=hi->hi<=els.length->ar I m L (sliced A lo hi c size) (.d (.slice size ((els.take hi).drop lo))):=by
   intro lo hi ah ai
   obtain⟨_,_,aj⟩:=ML Y ah ai
   refine .d _ _ ?_
   simpa [sliced]using aj
  obtain⟨ae,az,_⟩:=ML Y (j2 els.length) (eb _)
  cases lo with
  |none=>
   cases hi with
   |none=>
    simp only[Option.map_none]at j⊢
    refine⟨rfl,_,by rw[M,run_slice_all w t A n c F,N];rfl,?_⟩
    have:=fin 0 els.length (j2 _) (eb _)
    rw[ae]
    simpa [R.ok]using this
   |some b=>
    simp only[Option.map_none,Option.map_some]at j⊢
    split at j
    ·rename_i k h U
     have G:=hint U (aa b rfl)
     simp only
     refine⟨trivial,_,by rw[M,G,run_slice_h w t A n c F _ _ j.1 (by omega),N];rfl,?_⟩
     have:=fin 0 h.toNat (j2 _) (by omega)
     simpa using this
    exact j.elim
  |some a=>
   cases hi with
   |none=>
    simp only[Option.map_none,Option.map_some]at j⊢
    split at j
    ·rename_i k h O
     have G:=hint O (ad a rfl)
     simp only
     refine⟨trivial,_,by rw[M,G,run_slice_l w t A n c F _ _ j.1 (by omega),N];rfl,?_⟩
     have:=fin h.toNat els.length (by omega) (eb _)
     rw[ae]
     simpa using this
    exact j.elim
   |some b=>
    simp only[Option.map_some]at j⊢
    split at j
    ·rename_i k g aA h O U
     have G:=hint O (ad a rfl)
     have av:=hint U (aa b rfl)
     simp only
     refine⟨trivial,_,by rw[M,G,av,run_slice_lh w t A n c F _ _ _ _ j.1 j.2.1 (by omega),N];rfl,?_⟩
     exact fin g.toNat h.toNat (by omega) (by omega)
    exact j.elim
 exact j.elim
end
end Go.ag
namespace Go.ag
open Go Go.RowKit
variable [bq]
section
variable {P:Program}{V:Env}{w0 w:World}{I0 I:ay}{m:Nat->Value}{l L:List AO}
def Dr{size:Nat}:∀(els:List D)(k:Nat)(x:D),(∀d∈els,d.cells.length=size)->k<els.length->flat (els.set k x)=(flat els).take (k*size)++x.cells++(flat els).drop (k*size+size)
 | [],k,x,_,hk=>by simp at hk
 |d::els,0,x,j,_=>by
  have B:=j d (by simp)
  simp[flat,<-B,zx]
 |d::els,k+1,x,j,hk=>by
  have B:=j d (by simp)
  have O:=Dr els k x (λy N=>j y (by simp[N])) (by simpa using hk)
  have F:(k+1)*size=d.cells.length+k*size:=by rw[B,D1,abq]
  have G:flat (d::els)=d.cells++flat els:=by simp[flat]
  have M:flat (d::els.set k x)=d.cells++flat (els.set k x):=by simp[flat]
  rw[List.set_cons_succ,M,O,G,F,List.take_append,zx]
  simp[k5,s4,hU,show d.cells.length+k*size+size-d.cells.length=k*size+size by omega,List.drop_of_length_le (show d.cells.length<=d.cells.length+k*size+size by omega)]
def GQ{α:Type}(A V:List α)(p s j:Nat)(F:p+s<=j)(k:j<=A.length)(B:V.length=s):(A.take p++V++A.drop (p+s)).take j=(A.take j).take p++V++(A.take j).drop (p+s):=by
 apply hW
 intro i
 simp only[gl,hB,e3,e8,kb,B,o1 (show p<=A.length by omega),o1 k,o1 (show p<=j by omega)]
 by_cases a:i<j
 ·by_cases b:i<p
  ·simp[a,b,show i<p+s by omega]
  by_cases c:i<p+s
  ·simp[a,b,c]
  simp[a,b,c,show p+s+(i-(p+s))<j by omega]
 simp[a,show ¬i<p by omega,show ¬i<p+s by omega,show ¬p+s+(i-(p+s))<j by omega]
theorem aH.BU(F:aH w0 I0 w I m l){id b e size n c:Nat}{els els':List D}{cur new:Array Value}{xs:List Value}(G:l[id]?=some (.row e size els))(Z:m id=.slice (some ⟨b,0,none⟩) n c)(aw:w.heap[b]?=some (.cells cur e (0,0)))(au:(w.setRow b new).ownsRow w0.heap.size e size (.slice (some ⟨b,0,none⟩) n c) els'.length xs)(av:∀d∈els',d.cells.length=size/\∀x∈d.cells,x.one=true)(ar:∀(j:Nat) x y,xs[j]?=some x->(flat els')[j]?=some y->Rd I x y) :
  Le I m l I m (l.set id (.row e size els'))/\aH w0 I0 (w.setRow b new) I m (l.set id (.row e size els')):=by
 obtain⟨aF,aB,aC,aD,ax⟩:=F.obj id _ G
 have ae:id<l.length:=(c5.1 G).1
 have aa:I.dY b:=ax b (by rw[Z];rfl)
 have aA:w0.heap.size<=b:=((F.obj id _ G).lt (by simp) (by rw[Z];rfl)).2
 have ag:Le I m l I m (l.set id (.row e size els')):=by
  refine⟨.refl I,by simp,λk _ Y=>⟨(lL (o':=.row e size els') G rfl k).trans Y,rfl⟩,λk _ Y=>⟨(lK (o':=.row e size els') G rfl k).symm.trans Y,rfl⟩,λk ay aE ai Y hh=>?_⟩
  by_cases af:k=id
  ·subst af;rw[e4,if_pos rfl,if_pos ae]at hh
   rcases hh with hh|hh
   ·injection hh with hh;injection hh with ak al az;subst ak;subst al;exact⟨els,.inl G⟩
   cases hh
  rw[e4,if_neg (hS af)]at hh;exact⟨ai,hh⟩
 refine⟨ag,⟨F.below.trans ⟨rfl,rfl,rfl,by simp[World.setRow],λk Y=>p2 w b _ new (by omega),λ_=>eb _⟩,⟨λB o u N=>?_,λB aj N=>?_,λB U=>(p2 w b _ new (λe=>by subst e;exact F.sat.lP aw (by simp) U)).trans (F.sat.df B U),F.sat.dz⟩,F.ext,λj o M=>?_,λi j B aq hi M an ao=>?_⟩⟩
 ·have ad:B≠b:=by rintro rfl;rw[aa.1]at N;cases N
  exact(la (w:=w) (a:=⟨B,o,none⟩) (p2 w b _ new ad)).trans (F.sat.cell B o u N)
 ·have ad:B≠b:=by rintro rfl;rw[aa.2]at N;cases N
  have hh:=F.sat.mp B aj N
  exact dZ.to (p2 w b _ new ad) hh
 ·by_cases ab:j=id
  ·subst ab
   rw[e4,if_pos rfl,if_pos ae]at M
   injection M with M;subst M
   rw[Z]
   exact⟨xs,au,av,ar,λB O=>by injection O with O;subst O;exact aa⟩
  rw[e4,if_neg (hS ab)]at M
  by_cases U:o=.dead
  ·subst U;trivial
  refine(F.obj j o M).cM ag (λB O=>p2 w b _ new ?_) (λ_ _=>⟨rfl,rfl⟩) (.set (λB u ah=>p2 w b _ new (λe=>by subst e;rw[aa.1]at ah;cases ah)) (λh=>by cases h))
  rintro rfl
  exact F.sep j id B ab (bM.2 ⟨o,M,U⟩) (bM.2 ⟨_,G,by simp⟩) O (by rw[Z];rfl)
 refine F.sep i j B aq ?_ ?_ an ao
 ·unfold alive at hi⊢;rwa [lL (o':=.row e size els') G rfl,lK (o':=.row e size els') G rfl]at hi
 unfold alive at M⊢;rwa [lL (o':=.row e size els') G rfl,lK (o':=.row e size els') G rfl]at M
theorem YG(ax:cq P V.E)(an:aH w0 I0 w I m l){id k:Nat}{ty e size:Nat}{els:List D}{x:D}{v:Value}{a:Addr}(aa:l[id]?=some (.row e size els))(ay:ar I m l (.pointer (some a)) (.bw id k 0))(aP:Rd I v x)(U:x.cells.length=size)(aw:x.cells.all D.one=true)(ah:k<els.length)(aj:x.cells.length=bD V.E ty)(aV:0<x.cells.length) :
  ∃w',(Instr.storeAt ty (.pointer (some a)) v).run P w=.ok () w'/\Le I m l I m (l.set id (.row e size (els.set k x)))/\aH w0 I0 w' I m (l.set id (.row e size (els.set k x))):=by
 obtain⟨b,n,c,ai,az⟩:∃b n c,m id=.slice (some ⟨b,0,none⟩) n c/\a=⟨b,k*size+0,none⟩:=by
  cases ay with
  |bw _ _ _ _ au O=>exact O e size els (.inl aa)
 subst az
 obtain⟨xs,ao,ad,aq,aW⟩:=an.obj id _ aa
 rw[ai]at ao
 obtain⟨aQ,aC⟩:=ao
 rcases aC with ⟨ab,_⟩| ⟨g,aT,cur,ab,aA,Y,ak,aB,ae,aL⟩
 ·cases ab
 injection ab with N aM aO
 injection N with N;injection N with N;subst N;subst aM;subst aO
 have ht:∀ds,x ≠ .aN ds:=λds e=>by subst e;simp[D.cells,D.one]at aw
 obtain⟨au,O,av⟩:=aP.cells ht
 have aI:∀u∈v.cells.toList,u.oneCell'=true:=by
  intro u B
  obtain⟨i,hi,rfl⟩:=gT.1 B
  have af:i<x.cells.length:=by simp at hi;omega
  exact(av i _ x.cells[i] (by rw[<-j3];exact c3 hi) (c3 af)).one (O _ (h6 af))
 have M:v.cells.toList.length=size:=by simp[au,U]
 have aD:k*size+size<=els.length*size:=by
  have:(k+1)*size<=els.length*size:=ka _ ah
  rw[D1]at this;exact this
 have aE:els.length*size<=cur.size:=by rw[ae];exact ka _ ak
 have aJ:(sizeOf ty).run P w=.ok v.cells.size w:=by
  cases hi:V.E ty with
  |none=>simp only[bD,hi,Option.map_none,Option.getD_none]at aj;omega
  |some i=>
   rw[kY ax hi w]
   simp only[bD,hi,Option.map_some,Option.getD_some]at aj
   congr 1;omega
 have aK:=w1 P b (k*size) e v.cells.toList 0 cur w Y (by rw[M];omega) aI
 refine⟨_,by simp only[Instr.storeAt,Instr.sureAddr,fv,Sem.run_pure,Result.andThen_ok,storeVar,aJ,ne_eq,ib,h8,Nat.add_zero];exact aK,?_⟩
 simp only[Nat.add_zero,M]
 generalize aF:(cur.toList.take (k*size)++v.cells.toList++cur.toList.drop (k*size+size)).toArray=new
 have al:new.toList=cur.toList.take (k*size)++v.cells.toList++cur.toList.drop (k*size+size):=by subst aF;simp
 have aG:new.size=cur.size:=by
  rw[<-Array.length_toList,al]
  simp only[e3,e8,rb,Array.length_toList,M]at *
  omega
 have aR:new.toList.take (els.length*size)=xs.take (k*size)++v.cells.toList++xs.drop (k*size+size):=by
  rw[al,<-aL]
  exact GQ _ _ _ _ _ aD (by rw[Array.length_toList];exact aE) M
 refine an.BU (n:=els.length) (c:=c) (cur:=cur) (xs:=xs.take (k*size)++v.cells.toList++xs.drop (k*size+size)) aa ai Y ⟨?_,.inr ⟨b,c,new,?_,aA,K1 w b cur new e (0,0) Y,?_,aB,by rw[aG,ae],?_⟩⟩ ?_ ?_
 ·simp only[e3,e8,rb,aQ,M,o2];omega
 ·simp
 ·simpa using ak
 ·rw[o2];exact aR
 ·intro d G
  rcases List.mem_or_eq_of_mem_set G with G|rfl
  ·exact ad d G
  exact⟨U,O⟩
 intro j u y B F
 rw[Dr els k x (λd G=>(ad d G).1) ah]at F
 have aU:(flat els).length=els.length*size:=iA els (λd G=>(ad d G).1)
 rw[hU,hB]at B F
 have l1:(xs.take (k*size)).length=k*size:=by rw[e8];omega
 have aS:((flat els).take (k*size)).length=k*size:=by rw[e8];omega
 rw[l1]at B;rw[aS]at F
 by_cases Z:j<k*size
 ·rw[if_pos Z]at B F
  rw[gl,if_pos Z]at B F
  exact aq j u y B F
 rw[if_neg Z]at B F
 rw[hB]at B F
 rw[M]at B;rw[U]at F
 by_cases ag:j-k*size<size
 ·rw[if_pos ag]at B F
  exact av _ u y (by simpa using B) F
 rw[if_neg ag]at B F
 rw[kb]at B F
 exact aq _ u y B F
def Uz{size:Nat}{els:List D}(G:∀d∈els,d.cells.length=size){k off:Nat}{d:D}(F:els[k]?=some d){X:List D}(Y:off+X.length<=size) :
  (flat els).take (k*size)++(d.cells.take off++X++d.cells.drop (off+X.length))++(flat els).drop (k*size+size)=(flat els).take (k*size+off)++X++(flat els).drop (k*size+(off+X.length)):=by
 have B:=G d (dk F)
 obtain⟨M,rfl⟩:=c5.1 F
 have e:flat els=flat (els.take k)++(els[k].cells++flat (els.drop (k+1))):=by
  conv=>lhs;rw[<-r2 k els]
  unfold flat
  rw[List.flatMap_append,hT M,hM]
 have j:(flat (els.take k)).length=k*size:=by rw[iA (els.take k) (λd B=>G d (na B)),e8];congr 1;omega
 rw[e]
 have N:(flat (els.take k)++(els[k].cells++flat (els.drop (k+1)))).take (k*size)=flat (els.take k):=by rw[<-j];simp
 have t2:(flat (els.take k)++(els[k].cells++flat (els.drop (k+1)))).drop (k*size+size)=flat (els.drop (k+1)):=by rw[<-j,<-B];simp
 have O:(flat (els.take k)++(els[k].cells++flat (els.drop (k+1)))).take (k*size+off)=flat (els.take k)++els[k].cells.take off:=by rw[<-j,List.take_append,k5 (by omega),s4,J0 (by omega)]
 have U:(flat (els.take k)++(els[k].cells++flat (els.drop (k+1)))).drop (k*size+(off+X.length))=els[k].cells.drop (off+X.length)++flat (els.drop (k+1)):=by rw[<-j,zx,k6 (by omega),s4,List.drop_append_of_le_length (by omega),List.nil_append]
 rw[N,t2,O,U]
 simp
theorem M6(az:cq P V.E)(aq:aH w0 I0 w I m l){id k off:Nat}{ty e size:Nat}{els cs:List D}{x:D}{v:Value}{a:Addr}(ae:l[id]?=some (.row e size els))(aA:ar I m l (.pointer (some a)) (.bw id k off))(aS:Rd I v x)(O:els[k]?=some (.agg cs))(aJ:off+x.cells.length<=size)(ay:x.cells.all D.one=true)(aj:k<els.length)(al:x.cells.length=bD V.E ty)(a1:0<x.cells.length) :
  ∃w',(Instr.storeAt ty (.pointer (some a)) v).run P w=.ok () w'/\Le I m l I m (l.set id (.row e size (els.set k (.agg (setAt cs off x.cells)))))/\aH w0 I0 w' I m (l.set id (.row e size (els.set k (.agg (setAt cs off x.cells))))):=by
 obtain⟨b,n,c,ak,aB⟩:∃b n c,m id=.slice (some ⟨b,0,none⟩) n c/\a=⟨b,k*size+off,none⟩:=by
  cases aA with
  |bw _ _ _ _ aw Z=>exact Z e size els (.inl ae)
 subst aB
 obtain⟨xs,au,Y,av,a6⟩:=aq.obj id _ ae
 rw[ak]at au
 obtain⟨aT,aE⟩:=au
 rcases aE with ⟨af,_⟩| ⟨g,aW,cur,af,aC,ab,an,aD,ag,aP⟩
 ·cases af
 injection af with N aQ aR
 injection N with N;injection N with N;subst N;subst aQ;subst aR
 have ht:∀ds,x ≠ .aN ds:=λds e=>by subst e;simp[D.cells,D.one]at ay
 obtain⟨aw,Z,ax⟩:=aS.cells ht
 have aK:∀u∈v.cells.toList,u.oneCell'=true:=by
  intro u B
  obtain⟨i,hi,rfl⟩:=gT.1 B
  have ah:i<x.cells.length:=by simp at hi;omega
  exact(ax i _ x.cells[i] (by rw[<-j3];exact c3 hi) (c3 ah)).one (Z _ (h6 ah))
 obtain⟨F,aa⟩:∃F,F=x.cells.length:=⟨_,rfl⟩
 have G:v.cells.toList.length=F:=by simp[aw,aa]
 have aZ:k*size+size<=els.length*size:=by
  have:(k+1)*size<=els.length*size:=ka _ aj
  rw[D1]at this;exact this
 have aF:els.length*size<=cur.size:=by rw[ag];exact ka _ an
 have aL:(sizeOf ty).run P w=.ok v.cells.size w:=by
  cases hi:V.E ty with
  |none=>simp only[bD,hi,Option.map_none,Option.getD_none]at al;omega
  |some i=>
   rw[kY az hi w]
   simp only[bD,hi,Option.map_some,Option.getD_some]at al
   congr 1;omega
 have aO:=w1 P b (k*size+off) e v.cells.toList 0 cur w ab (by rw[G];omega) aK
 refine⟨_,by simp only[Instr.storeAt,Instr.sureAddr,fv,Sem.run_pure,Result.andThen_ok,storeVar,aL,ne_eq,ib,h8,Nat.add_zero];exact aO,?_⟩
 simp only[Nat.add_zero,G]
 generalize aG:(cur.toList.take (k*size+off)++v.cells.toList++cur.toList.drop (k*size+off+F)).toArray=new
 have ao:new.toList=cur.toList.take (k*size+off)++v.cells.toList++cur.toList.drop (k*size+off+F):=by subst aG;simp
 have aI:new.size=cur.size:=by
  rw[<-Array.length_toList,ao]
  simp only[e3,e8,rb,Array.length_toList,G]at *
  omega
 have aU:new.toList.take (els.length*size)=xs.take (k*size+off)++v.cells.toList++xs.drop (k*size+off+F):=by
  rw[ao,<-aP]
  exact GQ _ _ _ _ _ (by omega) (by rw[Array.length_toList];exact aF) G
 have U:∀d∈els,d.cells.length=size:=λd M=>(Y d M).1
 have aX:cs.length=size:=U (.agg cs) (dk O)
 have aM:(setAt cs off x.cells).length=size:=by unfold setAt;simp;omega
 refine aq.BU (n:=els.length) (c:=c) (cur:=cur) (xs:=xs.take (k*size+off)++v.cells.toList++xs.drop (k*size+off+F)) ae ak ab ⟨?_,.inr ⟨b,c,new,?_,aC,K1 w b cur new e (0,0) ab,?_,aD,by rw[aI,ag],?_⟩⟩ ?_ ?_
 ·simp only[e3,e8,rb,aT,G,o2];omega
 ·simp
 ·simpa using an
 ·rw[o2];exact aU
 ·intro d M
  rcases List.mem_or_eq_of_mem_set M with M|rfl
  ·exact Y d M
  refine⟨aM,λy hy=>?_⟩
  have hy:y∈setAt cs off x.cells:=hy
  unfold setAt at hy
  rcases hP.1 hy with hy|hy
  ·rcases hP.1 hy with hy|hy
   ·exact(Y _ (dk O)).2 y (na hy)
   exact Z y hy
  exact(Y _ (dk O)).2 y (sm hy)
 intro j u y B hy
 rw[Dr els k _ U aj]at hy
 have hy:((flat els).take (k*size)++(cs.take off++x.cells++cs.drop (off+x.cells.length))++(flat els).drop (k*size+size))[j]?=some y:=by simpa [D.cells,setAt]using hy
 rw[show cs=(D.agg cs).cells from rfl,Uz U O aJ]at hy
 rw[r4]at B
 rw[<-aa]at hy
 have aY:(flat els).length=els.length*size:=iA els U
 rw[hU,hB]at B hy
 have l1:(xs.take (k*size+off)).length=k*size+off:=by rw[e8];omega
 have aV:((flat els).take (k*size+off)).length=k*size+off:=by rw[e8];omega
 rw[l1]at B;rw[aV]at hy
 by_cases ad:j<k*size+off
 ·rw[if_pos ad]at B hy
  rw[gl,if_pos ad]at B hy
  exact av j u y B hy
 rw[if_neg ad]at B hy
 rw[hB]at B hy
 rw[G]at B;rw[<-aa]at hy
 by_cases ai:j-(k*size+off)<F
 ·rw[if_pos ai]at B hy
  exact ax _ u y (by simpa using B) hy
 rw[if_neg ai]at B hy
 rw[kb]at B hy
 exact av _ u y B hy
end
end Go.ag
namespace Go.ag
open Go Go.RowKit
variable [bq]
def Cells(I:ay)(vs:List Value)(ds:List D):Prop:=vs.length=ds.length/\(∀d∈ds,d.one=true)/\∀(i:Nat) v d,vs[i]?=some v->ds[i]?=some d->Rd I v d
def nU(I:ay)(m:Nat->Value)(L:List AO)(vs:List Value)(ts:List T):Prop:=vs.length=ts.length/\(∀v∈vs,v.oneCell'=true)/\∀(i:Nat) v t,vs[i]?=some v->ts[i]?=some t->ar I m L v t
theorem nU.set{I:ay}{m:Nat->Value}{L:List AO}{vs xs:List Value}{ds ys:List T}{off:Nat}(h:nU I m L vs ds)(k:nU I m L xs ys)(Z:off+ys.length<=ds.length) :
  nU I m L (vs.take off++xs++vs.drop (off+xs.length)) (setAt ds off ys):=by
 obtain⟨Y,B,F⟩:=h
 obtain⟨M,N,O⟩:=k
 refine⟨by simp[setAt];omega,λd hd=>?_,λi v d j hd=>?_⟩
 ·simp only[hP]at hd
  rcases hd with (hd|hd)|hd
  ·exact B d (na hd)
  ·exact N d hd
  exact B d (sm hd)
 have l1:(vs.take off).length=off:=by simp;omega
 have U:(ds.take off).length=off:=by simp;omega
 rw[hU,hB,l1]at j
 rw[setAt,hU,hB,U]at hd
 by_cases hi:i<off
 ·rw[if_pos hi,gl,if_pos hi]at j hd
  exact F i v d j hd
 rw[if_neg hi,hB]at j hd
 rw[M]at j
 by_cases G:i-off<ys.length
 ·rw[if_pos G]at j hd;exact O _ v d j hd
 rw[if_neg G,kb]at j hd;exact F _ v d j hd
section
variable {P:Program}{V:Env}{w0 w:World}{I0 I:ay}{m:Nat->Value}{l L:List AO}{nid:Nat}{o:Oper}{ρ:Operand->Value}{ρT:Operand->T}
def Yq{v:Value}{d:D}(h:Rd I v d)(j:d.cells.all D.one=true):Cells I v.cells.toList d.cells:=by
 have ht:∀ds,d ≠ .aN ds:=λds e=>by subst e;simp[D.cells,D.one]at j
 obtain⟨F,G,M⟩:=h.cells ht
 exact⟨by simpa using F,G,λi u x k B=>M i u x (by simpa using k) B⟩
theorem fF(G:Nat->Option (Nat×Nat)):∀(parts:List (Nat×Operand))(cells:Array Value)(ds j:List T),nU I m L cells.toList ds->(∀p∈parts,ar I m L (ρ p.2) (ρT p.2)) ->
  lF G ds (parts.map λp=>(p.1,ρT p.2))=some j->∃F,Instr.fill G cells (parts.map λp=>(p.1,ρ p.2))=some F/\nU I m L F.toList j
 | [],cells,ds,j,B,_,h=>by
  simp[lF]at h;subst h
  exact⟨cells,rfl,B⟩
 |p::parts,cells,ds,j,B,Y,h=>by
  simp only[fa,lF]at h
  cases N:G p.1 with
  |none=>simp[N]at h
  |some al=>
    obtain⟨off,size⟩:=al
    simp only[N]at h
    split at h
    ·rename_i ah
     obtain⟨Z,aa,ab⟩:=II (Y p (by simp)) ah.2.2
     have U:nU I m L (ρ p.2).cells.toList (bx (ρT p.2)):=⟨Z,aa,ab⟩
     have ak:(ρ p.2).cells.size=size:=by have:=U.1;simp at this;omega
     have ao:off+(ρ p.2).cells.size<=cells.size:=by have:=B.1;simp at this;omega
     obtain⟨an,ad⟩:=Great.foldl_set off (ρ p.2).cells.toList 0 cells
     generalize af:((ρ p.2).cells.toList.zipIdx 0).foldl (λcs(x:Value×Nat)=>cs.setIfInBounds (off+x.2) x.1) cells=cs at *
     have ai:cs.toList=cells.toList.take off++(ρ p.2).cells.toList++cells.toList.drop (off+(ρ p.2).cells.toList.length):=by
      apply hW
      intro k
      have:=ad k
      rw[j3,this]
      have l1:(cells.toList.take off).length=off:=by simp;omega
      rw[hU,hB,l1,hB]
      simp only[Nat.add_zero,Array.length_toList]
      by_cases M:k<off
      ·rw[if_neg (by omega),if_pos M,gl,if_pos M];simp
      rw[if_neg M]
      by_cases O:k-off<(ρ p.2).cells.size
      ·rw[if_pos (by omega),if_pos O]
      rw[if_neg (by omega),if_neg O,kb]
      rw[show off+(ρ p.2).cells.size+(k-off-(ρ p.2).cells.size)=k by omega];simp
     obtain⟨F,ag,ae⟩:=fF G parts cs (setAt ds off (bx (ρT p.2))) j (by rw[ai];exact B.set U (by have:=B.1;simp at this;omega)) (λq aj=>Y q (by simp[aj])) h
     refine⟨F,?_,ae⟩
     simp only[fa]
     unfold Instr.fill
     simp only[N]
     rw[if_neg (by simp[ak];omega),<-ag]
     congr 1
     rw[<-af,<-LB,Array.toList_zipIdx]
    cases h
theorem Se(N:cq P V.E){t:TypeId}{sz ag:Nat}{z:List D}{ds:List T}{fs:List (Nat×TypeId)}{parts:Array (Nat×Operand)}(af:V.E t=some ⟨sz,ag,z,.struct fs⟩)(aw:∀p∈parts.toList,ar I m L (ρ p.2) (ρT p.2))(ao:lF (se V.E fs) (z.map iO) (parts.toList.map λp=>(p.1,ρT p.2))=some ds)(ak:∀f∈fs,(V.E f.2).isSome=true) :
  ∃u,(Instr.build t (parts.map λ(i,x)=>(i,ρ x))).run P w=.ok u w/\ar I m L u (gk true ds):=by
 obtain⟨ah,ax,rfl⟩:=G4 N af
 obtain⟨x,Z,ai,aA,aB,aj,aa,aC,aD,aE⟩:=e9 (N t _ af)
 have an:nU I m L Z.cells.toList (z.map iO):=by
  obtain⟨F,Y,az⟩:=po I _ _ aa
  have F:Z.cells.toList.length=z.length:=F
  refine⟨by simpa using F,λv B=>?_,λi v t B ht=>?_⟩
  ·obtain⟨j,au,rfl⟩:=gT.1 B
   have ad:j<z.length:=by omega
   exact(az j _ _ (c3 au) (c3 ad)).one (Y _ (h6 ad))
  rw[et]at ht
  cases U:z[i]? with
  |none=>simp[U]at ht
  |some d=>simp[U]at ht;subst ht;exact Ho (xX aa B U)
 obtain⟨G,aq,O⟩:=fF (ρ:=ρ) (ρT:=ρT) (m:=m) (L:=L) (se V.E _) parts.toList Z.cells _ ds an aw ao
 have av:∀k:List Field,(∀f∈k.map (λf=>(f.offset,f.type)),(V.E f.2).isSome=true)->k.mapM (λf=>(P.info? f.type).map λi=>(f.offset,i.size))=some (k.map λf=>(f.offset,bD V.E f.type)):=by
  intro k ab
  induction k with
  |nil=>rfl
  |cons f k ay=>
   obtain⟨i,hi⟩:=kd.1 (ab (f.offset,f.type) (by simp))
   obtain⟨aF,_,F,Y,_⟩:=e9 (N _ _ hi)
   have M:(P.info? f.type).map (λi=>(f.offset,i.size))=some (f.offset,bD V.E f.type):=by
    simp only at hi
    simp[F,Y,bD,hi]
   simp only[k8,M,ay (λq ae=>ab q (by simp at ae⊢;exact .inr ae)),fa]
   rfl
 have al:P.built t (parts.map λ(i,x)=>(i,ρ x)).toList=some G:=by
  unfold Program.built
  simp only[ai,ax,aj,av ah.toList ak]
  rw[<-aq]
  have M:(parts.map λ(i,x)=>(i,ρ x)).toList=parts.toList.map λp=>(p.1,ρ p.2):=by simp
  rw[M]
  congr 1
  funext i
  simp only[se,z1,et,Option.map_map]
  rfl
 refine⟨_,run_build w t _ _ al,?_⟩
 have:=EL (I:=I) (m:=m) (L:=L) (i:=⟨G.size,0,[],.struct []⟩) (vs:=G.toList) (ts:=ds) O.1 (by simp) (by simp[TD.agg]) (λj v t B ht=>⟨O.2.2 j v t B ht,O.2.1 v (dk B)⟩)
 simpa [TD.agg]using this
def aH.known(F:aH w0 I0 w I m L)(e:TypeId)(cs:Array Value)(size:Nat)(ds:List D)(n:Nat)(U:ds.length=n)(aa:∀d∈ds,d.cells.length=size/\∀x∈d.cells,x.one=true)(ak:cs.size=n*size)(af:n<=maxLen)(ag:∀(j:Nat) x y,cs[j]?=some x->(flat ds)[j]?=some y->Rd I x y) :
  ∃J,Le I m L J m L/\aH w0 I0 (w.alloc (.cells cs e)) J m L/\Rd J (.slice (some ⟨w.heap.size,0,none⟩) n n) (.slice size ds):=by
 have Y:=F.sat.dY (eb w.heap.size)
 let J:=I.dH w.heap.size cs.toList
 have O:I.le J:=⟨λb o v B=>by
  have G:b≠w.heap.size:=by rintro rfl;rw[Y.1 o]at B;cases B
  simp[J,ay.dH,G,B],λ_ _ h=>h,λ_ h=>h⟩
 have Z:∀b,b≠w.heap.size->J.cell b=I.cell b:=λb G=>by funext o;simp[J,ay.dH,G]
 have ah:du (w.alloc (.cells cs e)) J:=⟨λb o v B=>by
  by_cases G:b=w.heap.size
  ·subst G
   simp only[J,ay.dH,hK]at B
   rw[World.cell?_alloc_new]
   cases M:cs[o]? with
   |none=>simp[M,Y.1 o]at B
   |some x=>simpa [M]using B
  ·rw[Z b G]at B
   rw[uu w _ _ (F.sat.lt B)];exact F.sat.cell b o v B,λb ab B=>by
  have ad:=F.sat.mp b ab B
  exact dZ.to (Below.heap_alloc w _ b (F.sat.ny B)) ad,λb N=>(Below.heap_alloc w _ b (F.sat.kI N)).trans (F.sat.df b N),λg d h=>(F.sat.dz g d h).mono O⟩
 obtain⟨ai,aj⟩:=F.call (dN.alloc (dN.refl _ _) (eb _) _) (.of O (λb G=>Z b (by omega)) (λ_ _=>rfl)) ah
 refine⟨J,aj,ai,.slice _ 0 n n size ds (λk=>(cs[k]?).getD undef) U (eb _) af aa (λk ae=>?_) (λk x M=>?_)⟩
 ·have:cs[k]?=some (cs[k]'(by omega)):=e7 (by omega)
  simp[J,ay.dH,this]
 have ae:k<n*size:=by rw[<-U,<-iA ds (λd N=>(aa d N).1)];exact(c5.1 M).1
 have:cs[k]?=some (cs[k]'(by omega)):=e7 (by omega)
 rw[this];exact(ag k _ x this M).mono O
theorem K5:∀(ps:List (Nat×Operand))(ds:List D),(∀p∈ps,ar I m L (ρ p.2) (ρT p.2))->ps.mapM (λp=>gJ (ρT p.2))=some ds->ps.length=ds.length/\∀(i:Nat) p d,ps[i]?=some p->ds[i]?=some d->Rd I (ρ p.2) d
 | [],ds,_,h=>by simp at h;subst h;simp
 |p::ps,ds,B,h=>by
  simp only[k8,Option.bind_eq_bind,k3,Option.pure_def,c4]at h
  obtain⟨x,M,xs,N,rfl⟩:=h
  obtain⟨F,G⟩:=K5 ps xs (λq j=>B q (by simp[j])) N
  refine⟨by simp[F],λi q d j k=>?_⟩
  rcases i with _|i
  ·simp at j k;subst j;subst k;exact Bt (B p (by simp)) M
  simp at j k;exact G i q d j k
theorem IC(Z:cq P V.E)(aw:aH w0 I0 w I m L){t e:TypeId}{sz al:Nat}{z:List D}{len:Nat}{parts:Array (Nat×Operand)}{ds:List D}(aB:V.E t=some ⟨sz,al,z,.slice e⟩)(aS:parts.toList.length=ds.length)(aI:∀(i:Nat) p d,parts.toList[i]?=some p->ds[i]?=some d->Rd I (ρ p.2) d)(ae:(V.E e).isSome=true/\0<bD V.E e)(au:len≠0)(an:parts.toList.map (·.1)=List.range len/\len*bD V.E e<=16777216/\ds.all (λd=>d.cells.length == bD V.E e&&d.cells.all D.one)=true) :
  ∃w' J,(Instr.buildSlice t len (parts.map λ(i,x)=>(i,ρ x))).run P w=.ok (.slice (some ⟨w.heap.size,0,none⟩) len len) w'/\Le I m L J m L/\aH w0 I0 w' J m L/\Rd J (.slice (some ⟨w.heap.size,0,none⟩) len len) (.slice (bD V.E e) ds):=by
 have F:=l4 Z aB
 obtain⟨aa,ao,ab⟩:=an
 obtain⟨i,hi⟩:=kd.1 ae.1
 obtain⟨x,Y,aF,U,aN,aG,aO,aP,aQ,aR⟩:=e9 (Z e i hi)
 have aj:bD V.E e=i.size:=by simp[bD,hi]
 rw[aj]at ao ab⊢
 have M:0<i.size:=by rw[<-aj];exact ae.2
 have O:parts.toList.length=len:=by have:=dn List.length aa;simpa using this
 have aq:ds.length=len:=by omega
 have G:∀d∈ds,d.cells.length=i.size/\∀y∈d.cells,y.one=true:=λd k=>by
  have:=dT.1 ab d k
  simp only[db,sk,dT]at this
  exact this
 have ad:∀(j:Nat) p d,parts.toList[j]?=some p->ds[j]?=some d->Cells I (ρ p.2).cells.toList d.cells:=λj p d B k=>Yq (aI j p d B k) (dT.2 (G d (dk k)).2)
 have aD:∀v∈parts.toList.map (λp=>ρ p.2),v.cells.size=i.size:=by
  intro v aC
  obtain⟨p,B,rfl⟩:=gj.1 aC
  obtain⟨j,N,rfl⟩:=gT.1 B
  have ag:j<ds.length:=by omega
  have:=(ad j _ _ (c3 N) (c3 ag)).1
  have aL:=(G _ (h6 ag)).1
  rw[Array.length_toList]at this;omega
 obtain⟨r,ar,az,ay⟩:=Great.fill_dense M (parts.toList.map λp=>ρ p.2) 0 ((Array.range (len*i.size)).map (Y.cells[· % Y.cells.size]!)) aD (by simp[O])
 have aE:(parts.map λ(i,x)=>(i,ρ x)).toList=((parts.toList.map λp=>ρ p.2).zipIdx 0).map λx=>(x.2,x.1):=by
  apply hW
  intro j
  simp only[Array.toList_map,et,List.getElem?_zipIdx,hV,Option.map_map]
  cases B:parts.toList[j]? with
  |none=>simp
  |some p=>
   have N:j<len:=by rw[<-O];exact(c5.1 B).1
   have:(parts.toList.map (·.1))[j]?=some p.1:=by rw[et,B];rfl
   rw[aa,ie N]at this
   injection this with this
   simp[this]
 have aA:=run_buildSlice (P:=P) w t e len (parts.map λ(i,x)=>(i,ρ x)) r x Y F aF aG (by rw[U];omega) (by rw[U];have:=abC (Nat.pos_of_ne_zero au) M;omega) (by rw[aE,U];exact ar)
 have ai:r.size=len*i.size:=by rw[az];simp
 obtain⟨J,aK,aJ,av⟩:=aw.known e r i.size ds len aq G ai (by unfold maxLen;have:len<=len*i.size:=Nat.le_mul_of_pos_right _ M;omega) (λj u y F ak=>by
  have ah:j<len*i.size:=by rw[<-ai];exact(e6.1 F).1
  rw[ay j,if_pos (by simp[O];exact ah)]at F
  simp only[Nat.sub_zero,et]at F
  have aM:j/i.size<len:=Nat.div_lt_of_lt_mul (by rw[nn];exact ah)
  have ax:j%i.size<i.size:=q6 _ M
  have B:parts.toList[j/i.size]?=some (parts.toList[j/i.size]'(by omega)):=c3 (by omega)
  have k:ds[j/i.size]?=some (ds[j/i.size]'(by omega)):=c3 (by omega)
  rw[B]at F
  have af:=flat_get ds (λd k=>(G d k).1) (j/i.size) (j%i.size) _ k ax
  rw[nn,vb]at af
  rw[af]at ak
  exact(ad _ _ _ B k).2.2 (j%i.size) u y (by simpa using F) ak)
 exact⟨_,J,aA,aK,aJ,av⟩
theorem aH.Bn(F:aH w0 I0 w I m l){w':World}{e size:Nat}{els:List D}{v:Value}{row:Option Nat}{lo:List AO}(aM:lo.length=l.length)(Y:∀(k:Nat) a,lo[k]?=some a->a=.dead\/l[k]?=some a)(aU:∀(k:Nat) a,a.isVar=true->l[k]?=some a->lo[k]?=some a)(N:w.grownBy w' row)(aK:w.drawn<=w'.drawn)(af:∀b,row=some b->w0.heap.size<=b/\I.dY b/\∀k,alive lo k=true->own (m k)≠some b)(aN:∀b,row=some b->¬I.df b)(an:∀b,own v=some b->w0.heap.size<=b/\I.dY b/\∀k,alive lo k=true->own (m k)≠some b){xs:List Value}(aR:w'.ownsRow w0.heap.size e size v els.length xs)(aS:∀d∈els,d.cells.length=size/\∀x∈d.cells,x.one=true)(aQ:∀(j:Nat) x y,xs[j]?=some x->(flat els)[j]?=some y->Rd I x y)(aT:∃A n c,v=.slice A n c) :
  Le I m l I (aP m l.length v) (lo++[.row e size els])/\aH w0 I0 w' I (aP m l.length v) (lo++[.row e size els])/\ar I (aP m l.length v) (lo++[.row e size els]) v (.row l.length):=by
 have ag:∀k,k<l.length->(lo++[AO.row e size els])[k]?=lo[k]?:=λk ay=>e1 (by omega)
 have aL:(lo++[AO.row e size els])[l.length]?=some (.row e size els):=by rw[<-aM];simp
 have aA:Le I m l I (aP m l.length v) (lo++[.row e size els]):=by
  refine⟨.refl I,by simp;omega,λid aa au=>⟨?_,bW m v (by omega)⟩,λid aa ae=>⟨?_,bW m v (by omega)⟩,λid aX s' els' aa hh=>?_⟩
  ·unfold isVar at au⊢;rw[ag id aa]
   cases B:l[id]? with
   |none=>simp[B]at au
   |some o=>
    have aB:o.isVar=true:=by simpa [B]using au
    rw[aU id o aB B];exact aB
  ·unfold isRow at ae⊢;rw[ag id aa]at ae
   cases B:lo[id]? with
   |none=>simp[B]at ae
   |some o=>
    rcases Y id o B with rfl|h
    ·simp[B,AO.isRow]at ae
    rw[h];rw[B]at ae;exact ae
  rw[ag id aa]at hh
  rcases hh with hh|hh
  ·rcases Y id _ hh with h|h
   ·cases h
   exact⟨els',.inl h⟩
  rcases Y id _ hh with h|h
  ·cases h
  exact⟨els',.inr h⟩
 have aJ:∀k a,lo[k]?=some a->a ≠ .dead->∀b,own (m k)=some b->w'.heap[b]?=w.heap[b]?:=by
  intro k a ai G b Z
  have aI:l[k]?=some a:=(Y k a ai).resolve_left G
  refine N.block b ((F.obj k a aI).lt G Z).1 (λM=>?_)
  exact(af b M.symm).2.2 k (bM.2 ⟨a,ai,G⟩) Z
 refine⟨aA,⟨F.below.trans ⟨N.os,N.tape,N.output,N.size,λk ay=>N.block k (by have:=F.below.size;omega) (λM=>by have:=(af k M.symm).1;omega),λ_=>aK⟩,⟨λb o u U=>?_,λb aG U=>?_,λb G=>(N.block b (F.sat.kI G) (λM=>aN b M.symm G)).trans (F.sat.df b G),F.sat.dz⟩,F.ext,λid o B=>?_,λi j b ah hi ax ab ad=>?_⟩,?_⟩
 ·have ao:some b≠row:=λM=>by rw[(af b M.symm).2.1.1 o]at U;cases U
  exact(la (w:=w) (a:=⟨b,o,none⟩) (N.block b (F.sat.lt U) ao)).trans (F.sat.cell b o u U)
 ·have ao:some b≠row:=λM=>by rw[(af b M.symm).2.1.2]at U;cases U
  have hh:=F.sat.mp b aG U
  exact dZ.to (N.block b (F.sat.ny U) ao) hh
 ·by_cases aa:id<l.length
  ·rw[ag id aa]at B;rw[bW m v (by omega)]
   by_cases G:o=.dead
   ·subst G;trivial
   exact(F.obj id o ((Y id o B).resolve_left G)).cM aA (aJ id o B G) (λ_ _=>⟨rfl,rfl⟩) ⟨λb u aq _=>⟨N.block b (F.sat.lt aq) (λM=>by rw[(af b M.symm).2.1.1 0]at aq;cases aq),rfl,rfl⟩,λq b aO Z=>(tO aO).elim (λh=>.inl ⟨q,(by
    have O:=h.2;unfold cI at O⊢
    cases ak:lo[q]? with
    |none=>simp[ak]at O
    |some a=>
     rcases Y q a ak with rfl|h'
     ·simp[ak,AO.cI]at O
     rw[ak]at O;rw[h'];exact O),by rw[bW m v (by have:=h.1;omega)]at Z;exact Z⟩) λh=>by cases h.2⟩
  have:id=l.length:=by have:=(c5.1 B).1;simp at this;omega
  subst this
  rw[aL]at B;injection B with B;subst B
  rw[dM]
  exact⟨xs,aR,aS,aQ,λb Z=>(an b Z).2.1⟩
 ·have aj:∀k,k≠l.length->alive (lo++[AO.row e size els]) k=true->alive lo k=true/\k<l.length:=by
   intro k ay ai
   obtain⟨o,B,G⟩:=bM.1 ai
   have az:k<l.length:=by have:=(c5.1 B).1;simp at this;omega
   rw[ag k az]at B
   exact⟨bM.2 ⟨o,B,G⟩,az⟩
  by_cases al:i=l.length
  ·subst al;rw[dM]at ab;rw[bW m v (hS ah)]at ad
   exact(an b ab).2.2 j (aj j (hS ah) ax).1 ad
  by_cases O:j=l.length
  ·subst O;rw[dM]at ad;rw[bW m v ah]at ab
   exact(an b ad).2.2 i (aj i ah hi).1 ab
  rw[bW m v al]at ab;rw[bW m v O]at ad
  have aE:=(aj i al hi).1
  have aF:=(aj j O ax).1
  obtain⟨aC,aV,av⟩:=bM.1 aE
  obtain⟨aD,aW,aw⟩:=bM.1 aF
  exact F.sep i j b ah (bM.2 ⟨aC,(Y i aC aV).resolve_left av,av⟩) (bM.2 ⟨aD,(Y j aD aW).resolve_left aw,aw⟩) ab ad
 obtain⟨A,n,c,rfl⟩:=aT
 exact .row A n c _ (by simp;omega) (λ_=>dM m _ _)
theorem aH.XF(M:aH w0 I0 w I m l){w':World}{e size:Nat}{els:List D}{v:Value}{row:Option Nat}{lo:List AO}(aD:lo.length=l.length)(U:∀(k:Nat) a,lo[k]?=some a->a=.dead\/l[k]?=some a)(aU:∀(k:Nat) a,a.isVar=true->l[k]?=some a->lo[k]?=some a)(Y:w.grownBy w' row)(aO:w.drawn<=w'.drawn)(ax:∀b,row=some b->w0.heap.size<=b/\∀k,alive lo k=true->own (m k)≠some b)(aF:∀b,row=some b\/own v=some b->I.cell b 0=none\/∃q,cI l q=true/\own (m q)=some b){J:ay}(ah:I.le J)(al:∀b,own v≠some b->J.cell b=I.cell b/\J.mp b=I.mp b)(aS:du w' J)(ae:∀b,own v=some b->w0.heap.size<=b/\∀k,alive lo k=true->own (m k)≠some b)(aR:dW w0.heap.size w' J (aP m l.length v) (lo++[.br e size els]) v (.br e size els))(aT:∃A n c,v=.slice A n c) :
  Le I m l J (aP m l.length v) (lo++[.br e size els])/\aH w0 I0 w' J (aP m l.length v) (lo++[.br e size els])/\ar J (aP m l.length v) (lo++[.br e size els]) v (.row l.length):=by
 have af:∀k,k<l.length->(lo++[AO.br e size els])[k]?=lo[k]?:=λk aA=>e1 (by omega)
 have aQ:(lo++[AO.br e size els])[l.length]?=some (.br e size els):=by rw[<-aD];simp
 have aC:Le I m l J (aP m l.length v) (lo++[.br e size els]):=by
  refine⟨ah,by simp;omega,λid Z au=>⟨?_,bW m v (by omega)⟩,λid Z ad=>⟨?_,bW m v (by omega)⟩,λid a1 s' els' Z hh=>?_⟩
  ·unfold isVar at au⊢;rw[af id Z]
   cases B:l[id]? with
   |none=>simp[B]at au
   |some o=>
    have aG:o.isVar=true:=by simpa [B]using au
    rw[aU id o aG B];exact aG
  ·unfold isRow at ad⊢;rw[af id Z]at ad
   cases B:lo[id]? with
   |none=>simp[B]at ad
   |some o=>
    rcases U id o B with rfl|h
    ·simp[B,AO.isRow]at ad
    rw[h];rw[B]at ad;exact ad
  rw[af id Z]at hh
  rcases hh with hh|hh
  ·rcases U id _ hh with h|h
   ·cases h
   exact⟨els',.inl h⟩
  rcases U id _ hh with h|h
  ·cases h
  exact⟨els',.inr h⟩
 have aN:∀k a,lo[k]?=some a->a ≠ .dead->∀b,own (m k)=some b->w'.heap[b]?=w.heap[b]?:=by
  intro k a ai N b F
  have aM:l[k]?=some a:=(U k a ai).resolve_left N
  refine Y.block b ((M.obj k a aM).lt N F).1 (λG=>?_)
  exact(ax b G.symm).2 k (bM.2 ⟨a,ai,N⟩) F
 refine⟨aC,⟨M.below.trans ⟨Y.os,Y.tape,Y.output,Y.size,λk aA=>Y.block k (by have:=M.below.size;omega) (λG=>by have:=(ax k G.symm).1;omega),λ_=>aO⟩,aS,⟨λ_ _ _ x=>ah.cell _ _ _ (M.ext.lc _ _ _ x),λ_ _ x=>ah.mp _ _ (M.ext.lm _ _ x),λb F x=>ah.df b (M.ext.ld b F x),λb F=>?_,λb F=>?_⟩,λid o B=>?_,λi j b ag hi az aa ab=>?_⟩,?_⟩
 ·exact(al b (λG=>by have:=(ae b G).1;omega)).1.trans (M.ext.cell b F)
 ·exact(al b (λG=>by have:=(ae b G).1;omega)).2.trans (M.ext.mp b F)
 ·by_cases Z:id<l.length
  ·rw[af id Z]at B;rw[bW m v (by omega)]
   by_cases N:o=.dead
   ·subst N;trivial
   exact(M.obj id o ((U id o B).resolve_left N)).cM aC (aN id o B N) (λb F=>al b (λG=>(ae b G).2 id (bM.2 ⟨o,B,N⟩) F)) ⟨λb u aq ao=>(by
    have aE:∀{x:Prop},(row=some b\/own v=some b)->x:=λh=>((aF b h).elim (λh=>by rw[h]at aq;cases aq) λh=>absurd h.choose_spec.2 (ao _ h.choose_spec.1))
    exact⟨Y.block b (M.sat.lt aq) (λG=>aE (.inl G.symm)),al b (λG=>aE (.inr G))⟩),λq b ao F=>(tO ao).elim (λh=>.inl ⟨q,(by
    have O:=h.2;unfold cI at O⊢
    cases ak:lo[q]? with
    |none=>simp[ak]at O
    |some a=>
     rcases U q a ak with rfl|h'
     ·simp[ak,AO.cI]at O
     rw[ak]at O;rw[h'];exact O),by rw[bW m v (by have:=h.1;omega)]at F;exact F⟩) λh=>by
    rw[h.1,aD,dM]at F
    exact(aF b (.inr F)).elim .inr λ⟨aX,aV,aW⟩=>.inl ⟨aX,aV,aW⟩⟩
  have:id=l.length:=by have:=(c5.1 B).1;simp at this;omega
  subst this
  rw[aQ]at B;injection B with B;subst B
  rw[dM]
  exact aR
 ·have aj:∀k,k≠l.length->alive (lo++[AO.br e size els]) k=true->alive lo k=true/\k<l.length:=by
   intro k aA ai
   obtain⟨o,B,N⟩:=bM.1 ai
   have aB:k<l.length:=by have:=(c5.1 B).1;simp at this;omega
   rw[af k aB]at B
   exact⟨bM.2 ⟨o,B,N⟩,aB⟩
  by_cases an:i=l.length
  ·subst an;rw[dM]at aa;rw[bW m v (hS ag)]at ab
   exact(ae b aa).2 j (aj j (hS ag) az).1 ab
  by_cases O:j=l.length
  ·subst O;rw[dM]at ab;rw[bW m v ag]at aa
   exact(ae b ab).2 i (aj i ag hi).1 aa
  rw[bW m v an]at aa;rw[bW m v O]at ab
  have aK:=(aj i an hi).1
  have aL:=(aj j O az).1
  obtain⟨aI,aY,av⟩:=bM.1 aK
  obtain⟨aJ,aZ,aw⟩:=bM.1 aL
  exact M.sep i j b ag (bM.2 ⟨aI,(U i aI aY).resolve_left av,av⟩) (bM.2 ⟨aJ,(U j aJ aZ).resolve_left aw,aw⟩) aa ab
 obtain⟨A,n,c,rfl⟩:=aT
 exact .row A n c _ (by simp;omega) (λ_=>dM m _ _)
end
end Go.ag