import Derived.WalkKit
import Derived.WalkSpells
import Derived.WalkLawsBesides
import Derived.Maps.AppendAt
import Derived.Deep.AppendLies
import Derived.Deep.MidRow
import Derived.Deep.Quiet
import Derived.Great.BuildSlice
import Derived.OrdersIn
import Derived.TacticsIn
import Derived.RangeFuncCalls
import Derived.Sort.LoopGhostIn
set_option linter.all false
namespace Go
def c3:=@decide_eq_true
def c4:=@Option.some.injEq
def c5:=@List.getElem?_eq_getElem
def da:=@decide_eq_false
def db:=@List.getElem?_eq_some_iff
def dd:=@List.mem_of_getElem?
def dk:=@Bool.and_eq_true
def dn:=@congrArg
def dT:=@List.length_append
def ea:=@decide_eq_true_eq
def eb:=@Nat.eq_of_beq_eq_true
def ec:=@Nat.le_refl
def ek:=@List.all_eq_true
def et:=@Prod.mk.injEq
def e0:=@List.getElem?_set
def e1:=@List.getElem?_append_left
def e3:=@List.getElem?_map
def e4:=@Option.map_eq_some_iff
def e5:=@Array.getElem?_eq_getElem
def e6:=@Array.getElem?_eq_some_iff
def e7:=@List.map_cons
def e8:=@Sem.run_bind
def fa:=@List.mem_cons
def fb:=@List.length_take
def fl:=@Classical.byContradiction
def fv:=@of_decide_eq_true
def gg:=@List.mem_map
def gj:=@Bool.not_eq_true'
def gl:=@Bool.eq_iff_iff
def hf:=@List.mem_of_find?_eq_some
def hg:=@Nat.le_of_ble_eq_true
def hz:=@Array.getD_eq_getD_getElem?
def hA:=@decide_eq_false_iff_not
def hB:=@Nat.le_trans
def hC:=@List.getElem?_append
def hD:=@List.mem_append
def hE:=@run_underlying
def hF:=@List.mem_iff_getElem
def hG:=@List.mem_filter
def hI:=@List.getElem?_append_right
def hJ:=@List.getElem?_eq_none
def hK:=@if_true
def hL:=@List.flatMap_cons
def hM:=@List.any_eq_true
def hN:=@List.map_congr_left
def hP:=@List.length_map
def hQ:=@List.getElem?_take
def hR:=@Bool.false_eq_true
def hS:=@List.drop_eq_getElem_cons
def hT:=@Nat.zero_add
def hU:=@Ne.symm
def hV:=@Array.mem_toList_iff
def hW:=@List.length_filter_le
def hX:=@List.ext_getElem?
def h5:=@List.nodup_cons
def h6:=@Nat.beq_refl
def h7:=@List.append_assoc
def h8:=@List.any_eq_false
def h9:=@if_false
def ia:=@List.getElem?_range
def ib:=@List.mem_range
def ie:=@List.getElem_mem
def ih:=@not_true_eq_false
def ik:=@List.filter_cons
def iu:=@List.append_nil
def iv:=@Bool.or_eq_true
def jb:=@MapKept.run_getObj_map
def j0:=@List.eq_nil_of_length_eq_zero
def j1:=@Array.getElem?_append_left
def j2:=@decide_eq_decide
def j3:=@Nat.zero_le
def j4:=@Array.getElem?_toList
def j5:=@List.take_of_length_le
def ka:=@List.mem_cons_of_mem
def kb:=@Bool.or_eq_false_iff
def kd:=@List.getElem?_drop
def kz:=@beq_false
def kA:=@List.find?_some
def kB:=@List.filter_sublist
def k0:=@List.mem_flatMap
def k3:=@Array.toList_inj
def k4:=@Bool.true_and
def k5:=@Bool.not_eq_true
def k6:=@Option.bind_eq_some_iff
def k7:=@List.map_map
def k8:=@List.nodup_append
def la:=@Nat.mul_le_mul_right
def lb:=@List.pairwise_iff_getElem
def lA:=@Bool.false_ne_true
def lB:=@Bool.false_or
def l2:=@List.mapM_cons
def l3:=@Int.tmod_eq_emod_of_nonneg
def ma:=@World.cell?_of_block
def mb:=@List.drop_eq_nil_of_le
def mo:=@MapKept.run_setObj_map
def mv:=@and_assoc
def mx:=@List.take_append_drop
def na:=@Code.wpIn_mono
def nb:=@Classical.choose_spec
def nh:=@List.map_append
def nn:=@Option.some.inj
def n2:=@List.mem_singleton
def n3:=@List.find?_eq_none
def n4:=@List.mem_of_mem_take
def om:=@Int.tdiv_eq_ediv_of_nonneg
def oo:=@MapKept.run_findKey
def o0:=@List.length_set
def o1:=@List.cons.injEq
def o2:=@Array.getElem?_modify
def o3:=@Nat.lt_of_lt_of_le
def o5:=@setRow_other
def o6:=@Option.isSome_iff_exists
def o7:=@Nat.mul_comm
def o8:=@MapKept.heap_set
def pa:=@List.findIdx?_cons
def pb:=@Bool.not_true
def p0:=@MapKept.run_checkKey
def p1:=@Nat.div_le_self
def p2:=@Bool.and_true
def p3:=@Nat.lt_succ_self
def p4:=@Bool.false_and
def p5:=@Nat.add_mul
def p6:=@Nat.lt_or_ge
def qc:=@Addr.add_mid
def qd:=@Nat.min_eq_left
def qn:=@Nat.gcd_pos_of_pos_right
def qs:=@List.Pairwise.imp_of_mem
def q0:=@World.grownBy_alloc
def q1:=@Array.getElem?_push
def q2:=@List.mergeSort_perm
def q3:=@List.length_drop
def q4:=@List.drop_zero
def q5:=@List.flatMap_map
def q6:=@Nat.mod_lt
def q7:=@Array.getElem?_append_right
def q8:=@getElem!_pos
def q9:=@List.mem_cons_self
def ra:=@Nat.div_mul_cancel
def rb:=@List.length_replicate
def rv:=@Nat.div_lt_iff_lt_mul
def r0:=@Nat.add_assoc
def r1:=@List.pairwise_map
def r2:=@List.length_range
def r3:=@Nat.gcd_dvd_right
def r4:=@beq_iff_eq
def sa:=@List.mem_of_mem_drop
def sb:=@Array.mapM_eq_mapM_toList
def sk:=@List.mem_append_left
def sm:=@List.mem_take_iff_getElem
def sx:=@List.getElem?_zip_eq_some
def s3:=@List.foldlM_cons
def s4:=@List.not_mem_nil
def s5:=@List.flatMap_append
def s6:=@Nat.eq_zero_or_pos
def ta:=@Bool.not_eq_false'
def tb:=@Int.mul_le_mul_of_nonneg_right
def tc:=@Nat.le_succ
def td:=@List.foldl_append
def ti:=@List.drop_drop
def tl:=@run_part_plain
def tr:=@List.map_set
def tt:=@bind_mono
def tv:=@Nat.coprime_div_gcd_div_gcd
def tx:=@World.cell?_alloc_lt
def uu:=@List.getElem?_of_mem
def u0:=@List.perm_ext_iff_of_nodup
def u4:=@beq_eq_false_iff_ne
def u5:=@List.dropWhile_cons
def u6:=@List.getElem?_eq_none_iff
def va:=@callsIn_wide
def vb:=@List.mem_filterMap
def vc:=@of_decide_eq_false
def vf:=@List.pairwise_cons
def vi:=@heap_alloc_new
def vt:=@Nat.mul_le_mul
def vx:=@Bool.and_false
def vy:=@Nat.add_sub_cancel_left
def v7:=@Int.eq_ofNat_of_zero_le
def v8:=@run_storeCells_at
def w1:=@run_append_own_at
def w2:=@List.drop_of_length_le
def xd:=@MapKept.stamped_modify
def x0:=@List.getElem?_eraseIdx
def x1:=@List.append_eq_nil_iff
def x3:=@List.filter_eq_nil_iff
def y0:=@Nat.le_of_dvd
def za:=@List.drop_append
def zc:=@List.drop_length
def zv:=@List.take_length
def zx:=@List.getElem?_toArray
def zz:=@Nat.ble_eq_true_of_le
def z1:=@Int.tmod_add_mul_tdiv
def A1:=@Nat.Coprime.dvd_of_dvd_mul_left
def B1:=@Nat.succ_mul
def Ds:=@Nat.div_add_mod
def D1:=@MapKept.stamped_push
def F0:=@List.length_eraseIdx
def F1:=@wpIn_region_lit
def F4:=@List.eq_nil_iff_forall_not_mem
def F8:=@List.range_succ
def I1:=@List.length_zip
def I3:=@List.filter_map
def J0:=@List.pairwise_append
def J1:=@List.take_append_of_le_length
def J2:=@List.filter_eq_self
def J3:=@List.length_flatMap
def J4:=@List.takeWhile_cons
def J5:=@List.length_reverse
def Kd:=@Array.getElem?_setIfInBounds
def Kn:=@Int.gcd_pos_of_ne_zero_right
def KR:=@List.take_succ
def K1:=@setRow_heap
def K2:=@decide_true
def LB:=@Array.foldl_toList
def M0:=@Int.natCast_nonneg
def Qd:=@decide_eq_true_iff
def Qe:=@Nat.mul_lt_mul_of_pos_right
def Qp:=@Int.sub_add_cancel
def Qx:=@Nat.mod_two_eq_zero_or_one
def T0:=@Bool.or_false
def adI:=@List.filter_congr
def adJ:=@Nat.le_succ_of_le
def adK:=@dif_pos
def adL:=@Nat.add_comm
def adM:=@or_false
def adN:=@List.map_nil
def adO:=@Int.lt_or_le
def adP:=@true_and
def adQ:=@Nat.gcd_dvd_left
def adR:=@Nat.succ_le_succ
def adS:=@List.map_flatMap
def adT:=@beq_toListBytes
def adU:=@run_equalIn_int
def adV:=@List.of_mem_zip
def adW:=@Int.natAbs_tmod
def adX:=@Int.natAbs_tdiv
def adY:=@Nat.mul_pos
def adZ:=@Sem.run_map
abbrev WP{α:Type}(b:Nat)(l:List α):Bool:=decide (l.length*b<=140737488355328/\l.length<=9223372036854775807)
end Go
namespace Go.ak
open Go Go.RowKit
inductive D where
 |bool (b:Bool)
 |int (k:IntKind) (n:Int)
 |str (s:ByteArray)
 |agg (cs:List D)
 |slice (size:Nat) (els:List D)
 |fn (f:FuncId)
 |kg
 |map (ks vs:List D)
 |dV
 |iface (t:TypeId) (d:D)
 |qv
 |aL (ds:List D)
 |aH (f:FuncId) (caps:List D)
 |box (d:D)
 |self (f:FuncId)
 deriving Inhabited
def D.cells:D->List D
 |.agg cs=>cs
 |d=>[d]
def D.one:D->Bool
 |.agg _=>false
 |.aL _=>false
 |_=>true
def flat(els:List D):List D:=els.flatMap D.cells
abbrev ME:=Array MapEntry×Nat
structure aD where
 cell:Nat->Nat->Option Value
 mp:Nat->Option ME
 df:Nat->Prop
structure aD.le(I J:aD):Prop where
 cell:∀b o v,I.cell b o=some v->J.cell b o=some v
 mp:∀b es,I.mp b=some es->J.mp b=some es
 df:∀b,I.df b->J.df b
theorem aD.le.refl(I:aD):I.le I:=⟨λ_ _ _ h=>h,λ_ _ h=>h,λ_ h=>h⟩
theorem aD.le.trans{I J K:aD}(h:I.le J)(k:J.le K):I.le K:=⟨λ_ _ _ x=>k.cell _ _ _ (h.cell _ _ _ x),λ_ _ x=>k.mp _ _ (h.mp _ _ x),λ_ x=>k.df _ (h.df _ x)⟩
inductive Rd(I:aD):Value->D->Prop
 |bool (b):Rd I (.bool b) (.bool b)
 |int (k n):Rd I (.int k n) (.int k n)
 |str (s):Rd I (.string s) (.str s)
 |agg (cs:Array Value) (ds:List D):cs.size=ds.length->(∀d∈ds,d.one=true)->(∀(i:Nat) v d,cs[i]?=some v->ds[i]?=some d->Rd I v d)->Rd I (.agg cs) (.agg ds)
 |ko (A c size):c<=maxLen->Rd I (.slice A 0 c) (.slice size [])
 |slice (b off n c size:Nat) (els:List D) (val:Nat->Value):els.length=n->n<=c->c<=maxLen->(∀d∈els,d.cells.length=size/\∀x∈d.cells,x.one=true) ->
   (∀k,k<n*size->I.cell b (off+k)=some (val k))->(∀(k:Nat) x,(flat els)[k]?=some x->Rd I (val k) x)->Rd I (.slice (some ⟨b,off,none⟩) n c) (.slice size els)
 |fn (f):Rd I (.func (.func f) #[] #[]) (.fn f)
 |kg:Rd I .nilFunc .kg
 |uo:Rd I (.map none) (.map [] [])
 |map (b:Nat) (es:ME) (ks vs:List D):I.mp b=some es->es.1.size=ks.length->es.1.size=vs.length->(∀(i:Nat)(e:MapEntry)(d:D),es.1[i]?=some e->ks[i]?=some d->Rd I e.key d)->(∀(i:Nat)(e:MapEntry)(d:D),es.1[i]?=some e->vs[i]?=some d->Rd I e.val d)->Rd I (.map (some b)) (.map ks vs)
 |dV:Rd I (.pointer none) .dV
 |iface (t v d):Rd I v d->Rd I (.iface t v) (.iface t d)
 |qv:Rd I .nilIface .qv
 |aL (vs:Array Value) (ds:List D):vs.size=ds.length->(∀(i:Nat) v d,vs[i]?=some v->ds[i]?=some d->Rd I v d)->Rd I (.tuple vs) (.aL ds)
 |aH (f) (vs:Array Value) (ds:List D):vs.size=ds.length->(∀(i:Nat) v d,vs[i]?=some v->ds[i]?=some d->Rd I v d)->Rd I (.func (.func f) #[] vs) (.aH f ds)
 |box (b:Nat) (d:D) (val:Nat->Value):(∀x∈d.cells,x.one=true)->(∀k,k<d.cells.length->I.cell b k=some (val k))->(∀(k:Nat) x,d.cells[k]?=some x->Rd I (val k) x)->Rd I (.pointer (some ⟨b,0,none⟩)) (.box d)
 |self (b:Nat) (f):I.cell b 0=some (.func (.func f) #[] #[.pointer (some ⟨b,0,none⟩)])->Rd I (.pointer (some ⟨b,0,none⟩)) (.self f)
theorem Rd.rX{I J:aD}(N:∀b o v,I.cell b o=some v->J.cell b o=some v)(Z:∀b G,I.mp b=some G->J.mp b=some G){v:Value}{d:D}(r:Rd I v d):Rd J v d:=by
 induction r with
 |bool b=>exact .bool b
 |int k n=>exact .int k n
 |str s=>exact .str s
 |agg cs ds j F _ B=>exact .agg cs ds j F B
 |ko A c size h=>exact .ko A c size h
 |slice b off n c size els val j F M U Y _ B=>exact .slice b off n c size els val j F M U (λk O=>N _ _ _ (Y k O)) B
 |fn f=>exact .fn f
 |kg=>exact .kg
 |uo=>exact .uo
 |map b G ad vs j F M _ _ aa ab=>exact .map b G ad vs (Z _ _ j) F M aa ab
 |dV=>exact .dV
 |iface t v d _ B=>exact .iface t v d B
 |qv=>exact .qv
 |aL vs ds j _ B=>exact .aL vs ds j B
 |aH f vs ds j _ B=>exact .aH f vs ds j B
 |box b d val j F _ B=>exact .box b d val j (λk O=>N _ _ _ (F k O)) B
 |self b f h=>exact .self b f (N _ _ _ h)
theorem Rd.mono{I J:aD}(h:I.le J){v:Value}{d:D}(r:Rd I v d):Rd J v d:=r.rX h.cell h.mp
def Rd.one{I:aD}{v:Value}{d:D}(h:Rd I v d)(j:d.one=true):v.oneCell'=true:=by
 cases h<;>simp_all [D.one,Value.oneCell']
theorem Rd.cells{I:aD}{v:Value}{d:D}(h:Rd I v d)(ht:∀ds,d ≠ .aL ds):v.cells.size=d.cells.length/\(∀x∈d.cells,x.one=true)/\∀(i:Nat) x y,v.cells[i]?=some x->d.cells[i]?=some y->Rd I x y:=by
 cases h with
 |agg cs ds B F G=>exact⟨B,F,G⟩
 |aL vs ds B F=>exact absurd rfl (ht ds)
 |_=>
  refine⟨by simp[Value.cells,D.cells],by simp[D.cells,D.one],λi x y j k=>?_⟩;simp only[Value.cells,D.cells]at j k;rcases i with _|i
  ·simp at j k;subst j;subst k;constructor<;>assumption
  simp at j
inductive T where
 |undef
 |d (x:D)
 |bq (size:Nat)
 |ptr (id off:Nat)
 |bu (size:Nat) (els:List D) (k off:Nat)
 |row (id:Nat)
 |bx (id k off:Nat)
 |map (id:Nat)
 |aL (ts:List T)
 |cond (pc:List (Nat×Bool×Bool)) (t:T)
 |aH (f:FuncId) (ts:List T)
 |bj (id:Nat)
 |agg (ts:List T)
 |sub (id lo hi:Nat)
 |bI (id:Nat) (x:D)
 |cC (id n:Nat)
 deriving Inhabited
abbrev Tm:=List (Nat×T)
def get:Tm->Nat->T
 | [],_=>.undef
 | (i,t)::r,k=>if i=k then t else get r k
def bH(s:Tm)(j:Option Nat)(t:T):Tm:=match j with|some d=>(d,t)::s|none=>s
inductive AO where
 |dead
 |var (ty:TypeId) (cs:List T)
 |row (e size:Nat) (els:List D)
 |bn (e size:Nat) (els:List D)
 |map (ks vs:List D)
 |dJ (ks vs:List D)
 |iter (ks vs:List D) (done:List Nat)
 |bw (e size:Nat) (ks vs:List D) (op:Option Nat)
 |frame (base:Nat) (vals:Nat->Value) (t:Tm)
 |loop (base n:Nat) (ps:Array Tmp) (bc body:Code) (t:Tm) (st:LoopState) (eW:Option Code)
 deriving Inhabited
def AO.isVar:AO->Bool |.var .. =>true |.iter .. =>true |.frame .. =>true |.loop .. =>true|_=>false
def AO.isRow:AO->Bool |.row .. =>true |.bn .. =>true |.map .. =>true |.dJ .. =>true |.bw .. =>true|_=>false
def AO.uc:AO->Bool |.bw .. =>true|_=>false
def AO.cA:AO->Bool |.bn .. =>true|_=>false
def isVar(l:List AO)(id:Nat):Bool:=((l[id]?).map AO.isVar).getD false
def isRow(l:List AO)(id:Nat):Bool:=((l[id]?).map AO.isRow).getD false
def cA(l:List AO)(id:Nat):Bool:=((l[id]?).map AO.cA).getD false
def holds:List (Nat×Bool×Bool)->Prop
 | []=>True
 | (_,c,b)::r=>c=b/\holds r
inductive az(I:aD)(m:Nat->Value)(l:List AO):Value->T->Prop
 |undef (v):az I m l v .undef
 |d (v x):Rd I v x->az I m l v (.d x)
 |bq (size):az I m l (.slice none 0 0) (.bq size)
 |ptr (id b off):isVar l id=true->m id=.pointer (some ⟨b,0,none⟩)->az I m l (.pointer (some ⟨b,off,none⟩)) (.ptr id off)
 |bu (b o size els k off) (val:Nat->Value):k<els.length->(∀d∈els,d.cells.length=size/\∀x∈d.cells,x.one=true) ->
   (∀j,j<els.length*size->I.cell b (o+j)=some (val j))->(∀(j:Nat) x,(flat els)[j]?=some x->Rd I (val j) x)->az I m l (.pointer (some ⟨b,o+k*size+off,none⟩)) (.bu size els k off)
 |row (A:Option Addr) (n c id:Nat):id<l.length->(isRow l id=true->m id=.slice A n c)->az I m l (.slice A n c) (.row id)
 |bx (a:Addr) (id k off):id<l.length->(∀e size els,(l[id]?=some (.row e size els)\/l[id]?=some (.bn e size els))->∃b n c,m id=.slice (some ⟨b,0,none⟩) n c/\a=⟨b,k*size+off,none⟩)->az I m l (.pointer (some a)) (.bx id k off)
 |map (r:Option Nat) (id:Nat):id<l.length->(isRow l id=true->m id=.map r)->az I m l (.map r) (.map id)
 |aL (vs:Array Value) (ts:List T):vs.size=ts.length->(∀(i:Nat) v t,vs[i]?=some v->ts[i]?=some t->az I m l v t)->az I m l (.tuple vs) (.aL ts)
 |cond (v pc t):(holds pc->az I m l v t)->(¬holds pc->v=Go.undef)->az I m l v (.cond pc t)
 |aH (g) (vs:Array Value) (ts:List T):vs.size=ts.length->(∀(i:Nat) v t,vs[i]?=some v->ts[i]?=some t->az I m l v t)->az I m l (.func (.func g) #[] vs) (.aH g ts)
 |bj (id b):isVar l id=true->m id=.func (.yield b) #[] #[]->az I m l (.func (.yield b) #[] #[]) (.bj id)
 |sub (A:Option Addr) (n c id lo hi:Nat):id<l.length->(∀e size els,(l[id]?=some (.row e size els)\/l[id]?=some (.bn e size els))->∃A0 n0 c0,m id=.slice A0 n0 c0/\lo<=hi/\hi<=n0/\Value.slice A n c=sliced A0 lo hi c0 size)->az I m l (.slice A n c) (.sub id lo hi)
 |bI (A:Option Addr) (n c id:Nat) (x:D):id<l.length->(isRow l id=true->m id=.slice A n c)->Rd I (.slice A n c) x->az I m l (.slice A n c) (.bI id x)
 |cC (id b n c:Nat):isVar l id=true->m id=.pointer (some ⟨b,0,none⟩)->n<=c->c<=maxLen->az I m l (.slice (some ⟨b,0,none⟩) n c) (.cC id n)
 |agg (vs:Array Value) (ts:List T):vs.size=ts.length->(∀(i:Nat) v,vs[i]?=some v->v.oneCell'=true)->(∀(i:Nat) v t,vs[i]?=some v->ts[i]?=some t->az I m l v t)->az I m l (.agg vs) (.agg ts)
structure Le(I:aD)(m:Nat->Value)(l:List AO)(J:aD)(m':Nat->Value)(l':List AO):Prop where
 du:I.le J
 len:l.length<=l'.length
 var:∀id,id<l.length->isVar l id=true->isVar l' id=true/\m' id=m id
 row:∀id,id<l.length->isRow l' id=true->isRow l id=true/\m' id=m id
 rows:∀id e size els,id<l.length->(l'[id]?=some (.row e size els)\/l'[id]?=some (.bn e size els))->∃els',(l[id]?=some (.row e size els')\/l[id]?=some (.bn e size els'))
theorem Le.refl(I:aD)(m:Nat->Value)(l:List AO):Le I m l I m l:=⟨.refl I,ec _,λ_ _ h=>⟨h,rfl⟩,λ_ _ h=>⟨h,rfl⟩,λ_ _ _ els _ h=>⟨els,h⟩⟩
theorem Le.trans{I J K:aD}{m m' O:Nat->Value}{l l' N:List AO}(h:Le I m l J m' l')(k:Le J m' l' K O N):Le I m l K O N where
 du:=h.du.trans k.du
 len:=hB h.len k.len
 var id j hv:=by
  obtain⟨B,F⟩:=h.var id j hv;obtain⟨G,M⟩:=k.var id (o3 j h.len) B;exact⟨G,M.trans F⟩
 row id j hv:=by
  obtain⟨G,M⟩:=k.row id (o3 j h.len) hv;obtain⟨B,F⟩:=h.row id j G;exact⟨B,M.trans F⟩
 rows id e size els j hv:=by
  obtain⟨els',U⟩:=k.rows id e size els (o3 j h.len) hv;exact h.rows id e size els' j U
def Af{l:List AO}{base id:Nat}(h:id<base):isVar (l.take base) id=isVar l id:=by unfold isVar;rw[hQ,if_pos h]
def Ad{l:List AO}{base id:Nat}(h:id<base):isRow (l.take base) id=isRow l id:=by unfold isRow;rw[hQ,if_pos h]
def Le.take{I J:aD}{m m':Nat->Value}{l l':List AO}(h:Le I m l J m' l')(base:Nat):Le I m (l.take base) J m' (l'.take base) where
 du:=h.du
 len:=by have:=h.len;rw[fb,fb];omega
 var id j hv:=by
  rw[fb]at j;rw[Af (by omega)]at hv⊢;exact h.var id (by omega) hv
 row id j hv:=by
  rw[fb]at j;rw[Ad (by omega)]at hv⊢;exact h.row id (by omega) hv
 rows id e size els j hv:=by
  rw[fb]at j;rw[hQ,if_pos (by omega)]at hv⊢;exact h.rows id e size els (by omega) hv
def Le.vC(I:aD)(m:Nat->Value)(l:List AO)(base:Nat):Le I m (l.take base) I m l where
 du:=.refl I
 len:=by rw[fb];omega
 var id j hv:=by
  rw[fb]at j;rw[Af (by omega)]at hv;exact⟨hv,rfl⟩
 row id j hv:=by
  rw[fb]at j;rw[Ad (by omega)];exact⟨hv,rfl⟩
 rows id e size els j hv:=by
  rw[fb]at j;refine⟨els,?_⟩;rw[hQ,if_pos (by omega)];exact hv
def Ae{l:List AO}{id:Nat}(h:isVar l id=true):id<l.length:=by
 unfold isVar at h;rcases p6 id l.length with h'|h'
 ·exact h'
 rw[hJ h']at h;simp at h
theorem az.mono{I J:aD}{m m':Nat->Value}{l l':List AO}(h:Le I m l J m' l'){v:Value}{t:T}(r:az I m l v t):az J m' l' v t:=by
 induction r with
 |undef v=>exact .undef v
 |d v x r=>exact .d v x (r.mono h.du)
 |bq s=>exact .bq s
 |ptr id b off B F=>
  obtain⟨G,M⟩:=h.var id (Ae B) B;exact .ptr id b off G (M.trans F)
 |bu b o size els k off val B F O Y=>exact .bu b o size els k off val B F (λj ae=>h.du.cell _ _ _ (O j ae)) (λj x ag=>(Y j x ag).mono h.du)
 |row A n c id B F=>
  refine .row A n c id (o3 B h.len) λhl=>?_;obtain⟨G,M⟩:=h.row id B hl;exact M.trans (F G)
 |bx a id k off B F=>
  refine .bx a id k off (o3 B h.len) λe size els hl=>?_;obtain⟨els',U⟩:=h.rows id e size els B hl;obtain⟨b,n,c,Z,aa⟩:=F e size els' U;have:isRow l' id=true:=by unfold isRow;rcases hl with hl|hl<;>simp[hl,AO.isRow]
  exact⟨b,n,c,(h.row id B this).2.trans Z,aa⟩
 |sub A n c id lo hi B F=>
  refine .sub A n c id lo hi (o3 B h.len) λe size els hl=>?_;obtain⟨els',U⟩:=h.rows id e size els B hl;obtain⟨ab,n0,ad,Z,aa⟩:=F e size els' U;have:isRow l' id=true:=by unfold isRow;rcases hl with hl|hl<;>simp[hl,AO.isRow]
  exact⟨ab,n0,ad,(h.row id B this).2.trans Z,aa⟩
 |bI A n c id x B F O=>
  refine .bI A n c id x (o3 B h.len) (λhl=>?_) (O.mono h.du);obtain⟨G,M⟩:=h.row id B hl;exact M.trans (F G)
 |map r id B F=>
  refine .map r id (o3 B h.len) λhl=>?_;obtain⟨G,M⟩:=h.row id B hl;exact M.trans (F G)
 |aL vs ts B _ N=>exact .aL vs ts B N
 |cond v pc t _ af N=>exact .cond v pc t N af
 |aH g vs ts B _ N=>exact .aH g vs ts B N
 |bj id b B F=>
  obtain⟨G,M⟩:=h.var id (Ae B) B;exact .bj id b G (M.trans F)
 |cC id b n c B F O Y=>
  obtain⟨G,M⟩:=h.var id (Ae B) B;exact .cC id b n c G (M.trans F) O Y
 |agg vs ts B F _ N=>exact .agg vs ts B F N
def own:Value->Option Nat
 |.pointer (some a)=>some a.block
 |.slice (some a) _ _=>some a.block
 |.map (some b)=>some b
 |.func (.yield b) _ _=>some b
 |_=>none
def aD.dX(I:aD)(b:Nat):Prop:=(∀o,I.cell b o=none)/\I.mp b=none
def dR(o:Option Obj)(j:ME):Prop:=o=some (.map j.1 j.2)/\MapKept.Stamped j.1 j.2
def dR.to{o o':Option Obj}{j:ME}(h:o'=o)(k:dR o j):dR o' j:=⟨h.trans k.1,k.2⟩
def vV(j:ME)(i:Nat):Nat:=((j.1[i]?).map (·.born)).getD 0
def jr(B:Nat)(w:World)(I:aD)(v:Value)(e size:Nat)(els:List D):Prop:=
 ∃xs,w.ownsRow B e size v els.length xs/\(∀d∈els,d.cells.length=size/\∀x∈d.cells,x.one=true)/\(∀(j:Nat) x y,xs[j]?=some x->(flat els)[j]?=some y->Rd I x y)/\(∀b,own v=some b->I.mp b=none/\(∀(j:Nat) x,xs[j]?=some x->I.cell b j=some x)/\∀j,xs.length<=j->I.cell b j=none)
def yQ(B:Nat)(w:World)(I:aD)(m:Nat->Value)(l:List AO)(e size:Nat)(F:ME)(vs:List D)(G:Option Nat):Prop:=
 ∃k:Nat->Nat,(∀(i:Nat)(en:MapEntry)(d:D),G≠some i->F.1[i]?=some en->vs[i]?=some d->∃els,d=.slice size els/\els≠[]/\own en.val=some (k i)/\jr B w I en.val e size els) /\
  (∀i j,i≠j->i<F.1.size->j<F.1.size->G≠some i->G≠some j->k i≠k j)/\∀q i,cA l q=true->i<F.1.size->G≠some i->own (m q)≠some (k i)
def dZ(B:Nat)(w:World)(I:aD)(m:Nat->Value)(l:List AO)(v:Value):AO->Prop
 |.dead=>True
 |.var ty cs=>∃b vs,v=.pointer (some ⟨b,0,none⟩)/\B<=b/\w.heap[b]?=some (.cells vs ty (0,0))/\vs.size=cs.length/\(∀(i:Nat) x t,vs[i]?=some x->cs[i]?=some t->az I m l x t/\x.oneCell'=true)/\I.dX b
 |.row e size els=>∃xs,w.ownsRow B e size v els.length xs/\(∀d∈els,d.cells.length=size/\∀x∈d.cells,x.one=true)/\(∀(j:Nat) x y,xs[j]?=some x->(flat els)[j]?=some y->Rd I x y)/\(∀b,own v=some b->I.dX b)
 |.bn e size els=>∃xs,w.ownsRow B e size v els.length xs/\(∀d∈els,d.cells.length=size/\∀x∈d.cells,x.one=true)/\(∀(j:Nat) x y,xs[j]?=some x->(flat els)[j]?=some y->Rd I x y)/\(∀b,own v=some b->I.mp b=none/\(∀(j:Nat) x,xs[j]?=some x->I.cell b j=some x)/\∀j,xs.length<=j->I.cell b j=none)
 |.map G vs=>∃b F,v=.map (some b)/\B<=b/\dR w.heap[b]? F/\F.1.size=G.length/\F.1.size=vs.length/\(∀(i:Nat)(e:MapEntry)(d:D),F.1[i]?=some e->G[i]?=some d->Rd I e.key d)/\(∀(i:Nat)(e:MapEntry)(d:D),F.1[i]?=some e->vs[i]?=some d->Rd I e.val d)/\I.dX b
 |.dJ G vs=>∃b F,v=.map (some b)/\B<=b/\dR w.heap[b]? F/\F.1.size=G.length/\F.1.size=vs.length/\(∀(i:Nat)(e:MapEntry)(d:D),F.1[i]?=some e->G[i]?=some d->Rd I e.key d)/\(∀(i:Nat)(e:MapEntry)(d:D),F.1[i]?=some e->vs[i]?=some d->Rd I e.val d)/\(∀o,I.cell b o=none)/\I.mp b=some F
 |.iter G vs done=>∃b M F seen,v=.pointer (some ⟨b,0,none⟩)/\B<=b/\w.heap[b]?=some (.mapIter M F.2 seen F.2)/\((∀r,M=some r->I.mp r=some F)/\(M=none->F.1 = #[]))/\F.1.size=G.length/\F.1.size=vs.length/\(∀(i:Nat)(e:MapEntry)(d:D),F.1[i]?=some e->G[i]?=some d->Rd I e.key d)/\(∀(i:Nat)(e:MapEntry)(d:D),F.1[i]?=some e->vs[i]?=some d->Rd I e.val d)/\(seen.toList=done.map (vV F)/\∀i∈done,i<F.1.size)/\I.dX b
 |.bw e size G vs O=>∃b F,v=.map (some b)/\B<=b/\dR w.heap[b]? F/\F.1.size=G.length/\F.1.size=vs.length/\(∀(i:Nat)(e:MapEntry)(d:D),F.1[i]?=some e->G[i]?=some d->Rd I e.key d)/\(∀(i:Nat)(e:MapEntry)(d:D),F.1[i]?=some e->vs[i]?=some d->Rd I e.val d)/\I.dX b/\0<size/\yQ B w I m l e size F vs O
 |.frame base vals t=>own v=none/\base<=l.length/\∀k,az I m (l.take base) (vals k) (get t k)
 |.loop base n ps bc N t st U=>∃b r,v=.func (.yield b) #[] #[]/\B<=b/\w.heap[b]?=some (.loop r)/\(r.state=st/\r.pending=U/\r.params=ps/\r.assign=bc/\r.body=N/\r.tmps.size=n)/\base<=l.length/\(∀k,az I m (l.take base) (r.tmps.getD k undef) (get t k))/\I.dX b
class bm where
 on:Prop
 dI:Nat->Option D:=λ_=>none
variable [bm]
structure cZ(w:World)(I:aD):Prop where
 cell:∀b o v,I.cell b o=some v->w.cell? ⟨b,o,none⟩=some v
 mp:∀b es,I.mp b=some es->dR w.heap[b]? es
 df:∀b,I.df b->w.heap[b]?=some (.deferred (some []))
 dK:∀g d,bm.dI g=some d->Rd I (.pointer (some ⟨g,0,none⟩)) (.box d)
def cZ.kW{w:World}{I:aD}(h:cZ w I){b:Nat}(j:I.df b):b<w.heap.size:=(e6.1 (h.df b j)).1
def cZ.l5{w:World}{I:aD}(h:cZ w I){b:Nat}{o:Obj}(j:w.heap[b]?=some o)(B:o ≠ .deferred (some [])):¬I.df b:=λk=>by
 rw[h.df b k]at j;injection j with j;exact B j.symm
def cZ.lt{w:World}{I:aD}(h:cZ w I){b o:Nat}{v:Value}(j:I.cell b o=some v):b<w.heap.size:=World.block_lt_of_cell? w ⟨b,o,none⟩ (h.cell b o v j)
def cZ.nM{w:World}{I:aD}(h:cZ w I){b:Nat}{j:ME}(k:I.mp b=some j):b<w.heap.size:=by
 have B:=h.mp b j k;exact(e6.1 B.1).1
theorem cZ.dX{w:World}{I:aD}(h:cZ w I){b:Nat}(k:w.heap.size<=b):I.dX b:=by
 refine⟨λo=>?_,?_⟩
 ·cases j:I.cell b o with
  |none=>rfl
  |some v=>have:=h.lt j;omega
 cases j:I.mp b with
 |none=>rfl
 |some v=>have:=h.nM j;omega
structure ff(B:Nat)(I J:aD):Prop where
 lc:∀b o v,I.cell b o=some v->J.cell b o=some v
 lm:∀b es,I.mp b=some es->J.mp b=some es
 ld:∀b,b<B->I.df b->J.df b
 cell:∀b,b<B->J.cell b=I.cell b
 mp:∀b,b<B->J.mp b=I.mp b
theorem ff.of{B:Nat}{I J:aD}(h:I.le J)(j:∀b,b<B->J.cell b=I.cell b)(k:∀b,b<B->J.mp b=I.mp b):ff B I J:=⟨h.cell,h.mp,λb _=>h.df b,j,k⟩
def ff.le{B:Nat}{I J:aD}(h:ff B I J)(k:∀b,I.df b->b<B):I.le J:=⟨h.lc,h.lm,λb j=>h.ld b (k b j) j⟩
theorem ff.refl(B:Nat)(I:aD):ff B I I:=.of (.refl I) (λ_ _=>rfl) (λ_ _=>rfl)
theorem ff.trans{B F:Nat}{I J K:aD}(h:ff B I J)(k:ff F J K)(G:B<=F):ff B I K:=
 ⟨λ_ _ _ x=>k.lc _ _ _ (h.lc _ _ _ x),λ_ _ x=>k.lm _ _ (h.lm _ _ x),λb j x=>k.ld b (by omega) (h.ld b j x),λb j=>(k.cell b (by omega)).trans (h.cell b j),λb j=>(k.mp b (by omega)).trans (h.mp b j)⟩
def alive(l:List AO)(id:Nat):Bool:=isVar l id||isRow l id
structure dq(B:Nat)(w w':World):Prop where
 os:w'.os=w.os
 tape:w'.tape=w.tape
 output:w'.output=w.output
 size:w.heap.size<=w'.heap.size
 block:∀k,k<B->w'.heap[k]?=w.heap[k]?
 drawn:bm.on->w.drawn<=w'.drawn
theorem dq.refl(B:Nat)(w:World):dq B w w:=⟨rfl,rfl,rfl,ec _,λ_ _=>rfl,λ_=>ec _⟩
theorem dq.below{B:Nat}{w w':World}(h:dq B w w'):Below B w w':=⟨h.os,h.tape,h.output,h.size,h.block⟩
theorem dq.of{B:Nat}{w w':World}(h:Below B w w')(j:bm.on->w.drawn<=w'.drawn):dq B w w':=⟨h.os,h.tape,h.output,h.size,h.block,j⟩
theorem dq.trans{B:Nat}{a b c:World}(h:dq B a b)(k:dq B b c):dq B a c:=.of (h.below.trans k.below) λo=>hB (h.drawn o) (k.drawn o)
theorem dq.mono{B j:Nat}{w w':World}(h:dq B w w')(k:j<=B):dq j w w':=.of (h.below.mono k) h.drawn
theorem dq.alloc{B:Nat}{w w':World}(h:dq B w w')(j:B<=w'.heap.size)(o:Obj):dq B w (w'.alloc o):=.of (h.below.alloc j o) h.drawn
def dq.drew{B:Nat}{w w':World}(h:dq B w w'):dq B w w'.drew:=.of h.below.drew λo=>hB (h.drawn o) (tc _)
structure aJ(w0:World)(I0:aD)(w:World)(I:aD)(m:Nat->Value)(l:List AO):Prop where
 below:dq w0.heap.size w0 w
 sat:cZ w I
 ext:ff w0.heap.size I0 I
 obj:∀id o,l[id]?=some o->dZ w0.heap.size w I m l (m id) o
 sep:∀i j b,i≠j->alive l i=true->alive l j=true->own (m i)=some b->own (m j)≠some b
end Go.ak
namespace Go.ak
open Go Go.RowKit
def Dy{α:Type}:∀(x:Ask α)(w:World),w.drawn<=(w.ask x).2.drawn
 |.done a,w=>ec _
 |.ask j range k,w=>by
  simp only[World.ask];split
  ·exact Dy _ w
  exact hB (tc _) (Dy (k _) {w with drawn:=w.drawn+1})
def acC(w:World)(c:Sys):w.drawn<=(w.sys c).2.drawn:=by
 unfold World.sys;have h:=Dy (Kernel.perform c w.os) w;split
 ·exact ec _
 rename_i r B w' k j;rw[j]at h;exact h
def adb{p:Program}{w w':World}{at_:Addr}{u:TypeId}{k:Addr}{v:Value}{j:Bool}{l:List Addr}(h:w.viewStore p at_ u k v j=.ok (w',l)):w'.drawn=w.drawn:=by
 unfold World.viewStore at h;simp only[bind,Except.bind,pure,Except.pure,throw,throwThe,MonadExceptOf.throw]at h
 repeat' split at h
 all_goals first|cases h;done|skip
 all_goals (injection h with h;injection h with h _;subst h;rfl)
def Wv{p:Program}{w w':World}{a:Addr}{v:Value}{j:Bool}{l:List Addr}(h:w.farStore p a v j=.ok (w',l)):w'.drawn=w.drawn:=by
 unfold World.farStore at h;split at h
 ·split at h
  ·rename_i r k;injection h with h;subst h;exact adb k
  cases h
 cases h
def gO{α:Type}(p:Program):∀(s:Sem α) (w:World) (a:α) (w':World),s.run p w=.ok a w'->w.drawn<=w'.drawn
 |.pure a,w,b,w',h=>by simp only[Sem.run]at h;cases h;exact ec _
 |.load m a k,w,b,w',h=>by
  simp only[Sem.run]at h;split at h
  ·exact gO p _ w b w' h
  split at h
  ·exact gO p _ w b w' h
  cases h
 |.store m a v k,w,b,w',h=>by
  have key:∀u:Value,(match w.cell? a with
    |some _=>if w.frozen? a then Result.halt (.unsupported (.unsafePointer "a write to bytes that a string shares")) w else k.run p (w.setCell a u)
    |none=>match w.farStore p a u (m == .atomic)with
     |.ok (w,_)=>k.run p w
     |.error h=>.halt h w)=Result.ok b w'->w.drawn<=w'.drawn:=by
   intro u h;split at h
   ·split at h
    ·cases h
    have:=gO p k _ b w' h;exact this
   split at h
   ·rename_i B l j;have:=gO p k _ b w' h;rw[Wv j]at this;exact this
   cases h
  cases v<;>simp only[Sem.run]at h<;>first|exact key _ h|cases h
 |.new o k,w,b,w',h=>by simp only[Sem.run]at h;have:=gO p _ _ b w' h;exact this
 |.shape r k,w,b,w',h=>by simp only[Sem.run]at h;exact gO p _ _ b w' h
 |.freeze a n k,w,b,w',h=>by
  simp only[Sem.run]at h;have:=gO p _ _ b w' h;unfold World.freeze at this;split at this<;>exact this
 |.frozen a k,w,b,w',h=>by simp only[Sem.run]at h;exact gO p _ _ b w' h
 |.getObj r k,w,b,w',h=>by
  simp only[Sem.run]at h;split at h
  ·cases h
  ·exact gO p _ _ b w' h
  cases h
 |.setObj r o k,w,b,w',h=>by
  simp only[Sem.run]at h;split at h
  ·cases h
  ·have:=gO p _ _ b w' h;exact this
  cases h
 |.choose q k,w,b,w',h=>by
  simp only[Sem.run]at h;split at h
  ·exact gO p _ _ b w' h
  exact hB (tc _) (gO p _ _ b w' h)
 |.sys c k,w,b,w',h=>by simp only[Sem.run]at h;exact hB (acC w c) (gO p _ _ b w' h)
 |.program k,w,b,w',h=>by simp only[Sem.run]at h;exact gO p _ _ b w' h
 |.mark m k,w,b,w',h=>by simp only[Sem.run]at h;exact gO p _ _ b w' h
 |.halt x,w,b,w',h=>by simp only[Sem.run]at h;cases h
def Pp(s:ByteArray):∀(bound i:Nat)(j:Array Value),(∀x∈j.toList,∃n,x=.int .i32 n)->∀x∈(Conv.runesFrom s bound i j).toList,∃n,x=.int .i32 n
 |0,_,j,h=>h
 |bound+1,i,j,h=>by
  unfold Conv.runesFrom;split
  ·refine Pp s bound _ _ λx k=>?_;simp at k;rcases k with k|rfl
   ·exact h x (by simpa using k)
   exact⟨_,rfl⟩
  exact h
inductive TD where
 |jJ
 |dE (k:IntKind)
 |string
 |slice (e:TypeId)
 |struct (fs:List (Nat×TypeId))
 |array (n:Nat) (e:TypeId)
 |map (k v:TypeId)
 deriving DecidableEq,Inhabited
structure TI where
 size:Nat
 bytes:Nat
 zero:List D
 desc:TD
def TD.agg:TD->Bool
 |.struct _=>true
 |.array _ _=>true
 |_=>false
abbrev cn:=TypeId->Option TI
abbrev yJ:=FuncId->List D->Option (D×Prop)
structure FR where
 t:T
 l:List AO
 ob:Prop
abbrev Di:=FuncId->List T->List AO->Option FR
def eK(agg:Bool)(cs:List D):D:=if agg then .agg cs else cs.headD .dV
inductive qS where
 |none
 |new (o:AO)
 |aQ (l:List AO)
structure R where
 t:T
 bE:qS
 ob:Prop
def R.ok(t:T):R:=⟨t,.none,True⟩
def R.bad:R:=⟨.undef,.none,False⟩
def pL:Value->D->Bool
 |.bool b,.bool c=>b == c
 |.int k n,.int j B=>k == j&&n == B
 |.string s,.str s'=>s.data == s'.data
 |.slice none 0 0,.slice _ []=>true
 |.pointer none,.dV=>true
 |.map none,.map [] []=>true
 |.nilFunc,.kg=>true
 |.nilIface,.qv=>true
 |_,_=>false
def tB:Value->T
 |.bool b=>.d (.bool b)
 |.int k n=>.d (.int k n)
 |.string s=>.d (.str s)
 |.slice none 0 0=>.bq 0
 |.pointer none=>.d .dV
 |.map none=>.d (.map [] [])
 |.nilFunc=>.d .kg
 |.nilIface=>.d .qv
 |_=>.undef
def cg[bm](s:Tm):Operand->T
 |.tmp t=>get s t
 |.const v=>tB v
 |.func f=>.d (.fn f)
 |.global g=>match bm.dI g with|some d=>.bu d.cells.length [d] 0 0|none=>.undef
structure St where
 t:Tm
 l:List AO
def cO(l:List AO):T->Option (D×List AO)
 |.d x=>some (x,l)
 |.bI _ x=>some (x,l)
 |.bq s=>some (.slice s [],l)
 |.row id=>match l[id]? with
  |some (.bn _ s els)=>some (.slice s els,l)
  |some (.row e s els)=>some (.slice s els,l.set id (.bn e s els))
  |_=>none
 |.map id=>match l[id]? with
  |some (.dJ ks vs)=>some (.map ks vs,l)
  |some (.map ks vs)=>some (.map ks vs,l.set id (.dJ ks vs))
  |_=>none
 |_=>none
def dm:List AO->List T->Option (List D×List AO)
 |l,[]=>some ([],l)
 |l,t::ts=>match cO l t with
  |none=>none
  |some (x,l')=>match dm l' ts with
   |none=>none
   |some (xs,j)=>some (x::xs,j)
def kj(l:List AO):T->Bool
 |.d _=>true
 |.bI _ _=>true
 |.bq _=>true
 |.row id=>match l[id]? with|some (.bn ..)=>true|_=>false
 |.map id=>match l[id]? with|some (.dJ ..)=>true|_=>false
 |_=>false
def dw(l:List AO)(t:T):Option (D×List AO):=match t with
 |.agg ts=>(match dm l ts with
  |some (ds,l')=>some (.agg ds,l')
  |none=>none)
 |t=>cO l t
def fw:List AO->List T->Option (List D×List AO)
 |l,[]=>some ([],l)
 |l,t::ts=>match dw l t with
  |none=>none
  |some (x,l')=>match fw l' ts with
   |none=>none
   |some (xs,j)=>some (x::xs,j)
def pw(l:List AO)(t:T):Bool:=match t with
 |.agg ts=>ts.all (kj l)
 |t=>kj l t
def arith(k:IntKind)(n:Int):D×Prop:=
 match k with
 |.i64=>(.int .i64 n,-9223372036854775808<=n/\n<=9223372036854775807)
 |k=>(.int k (k.wrap n),True)
mutual
def gB:D->D->Bool
 |.bool a,.bool b=>a == b
 |.int _ a,.int _ b=>a == b
 |.str a,.str b=>a == b
 |.agg xs,.agg ys=>c9 xs ys
 |_,_=>false
def c9:List D->List D->Bool
 | [],[]=>true
 |x::xs,y::ys=>gB x y&&c9 xs ys
 |_,_=>false
end
inductive Lf where
 |bool
 |int (k:IntKind)
 |str
 deriving DecidableEq
def ui:Lf->D->Bool
 |.bool,.bool _=>true
 |.int k,.int j _=>k == j
 |.str,.str _=>true
 |_,_=>false
def fM:List Lf->List D->Bool
 | [],[]=>true
 |x::xs,d::ds=>ui x d&&fM xs ds
 |_,_=>false
def vL(k:IntKind)(a b:Int):Int:=k.wrap ((BitVec.ofInt k.bits a &&& BitVec.ofInt k.bits b).toNat:Int)
def vr(k:IntKind)(a b:Int):Int:=a.fdiv (2 ^ min b.toNat k.bits)
def HZ(j:BinOp)(k:IntKind)(a b:Int):Option (D×Prop):=match j with
 |.shr=>some (.int k (vr k a b),0<=b)
 |_=>none
def eS(B:TypeId->Option (List Lf))(j:BinOp)(ty:TypeId):D->D->Option (D×Prop)
 |.int k a,.int F b=>
  if k≠F then HZ j k a b else
  match j with
  |.shr=>some (.int k (vr k a b),0<=b)
  |.and=>some (.int k (vL k a b),True)
  |.add=>some ((arith k (a+b)).1,(arith k (a+b)).2)
  |.sub=>some ((arith k (a-b)).1,(arith k (a-b)).2)
  |.mul=>some ((arith k (a*b)).1,(arith k (a*b)).2)
  |.quo=>(match k with |.i64=>some (.int .i64 (a.tdiv b),b≠0 /\ -9223372036854775808<=a.tdiv b/\a.tdiv b<=9223372036854775807)|_=>none)
  |.rem=>some (.int k (a.tmod b),b≠0)
  |.eql=>some (.bool (decide (a=b)),True)
  |.neq=>some (.bool (!decide (a=b)),True)
  |.lss=>some (.bool (decide (a<b)),True)
  |.leq=>some (.bool (decide (a<=b)),True)
  |.gtr=>some (.bool (decide (b<a)),True)
  |.geq=>some (.bool (decide (b<=a)),True)
  |_=>none
 |.bool a,.bool b=>match j with
  |.eql=>if B ty=some [.bool]then some (.bool (a == b),True)else none
  |.neq=>if B ty=some [.bool]then some (.bool (!(a == b)),True)else none
  |_=>none
 |.str a,.str b=>match j with
  |.eql=>some (.bool (a == b),True)
  |.neq=>some (.bool (!(a == b)),True)
  |.add=>some (.str (a++b),(a.size:Int)+(b.size:Int)<=9223372036854775807)
  |_=>none
 |.agg xs,.agg ys=>match j with
  |.eql=>(match B ty with|some ls=>if ls=[.bool]then none else some (.bool (c9 xs ys),fM ls xs=true/\fM ls ys=true)|none=>none)
  |.neq=>(match B ty with|some ls=>if ls=[.bool]then none else some (.bool (!(c9 xs ys)),fM ls xs=true/\fM ls ys=true)|none=>none)
  |_=>none
 |_,_=>none
def yE(j:UnOp):D->Option (D×Prop)
 |.bool b=>match j with |.not=>some (.bool (!b),True)|_=>none
 |.int k n=>match j with |.neg=>some ((arith k (0-n)).1,(arith k (0-n)).2)|_=>none
 |_=>none
def nU:Option (D×Prop)->R
 |some (x,ob)=>⟨.d x,.none,ob⟩
 |none=>.bad
def bB:T->List T
 |.d x=>x.cells.map .d
 |.agg ts=>ts
 |t=>[t]
def T.gq:T->Bool
 |.d x=>x.one
 |.aL _=>false
 |.cond _ _=>false
 |.agg _=>false
 |.undef=>false
 |_=>true
def iw:T->Option D
 |.d x=>some x
 |.bq s=>some (.slice s [])
 |_=>none
def fz:T->Option D
 |.d x=>some x
 |_=>none
def iF(agg:Bool)(cs:List T):T:=
 if agg then(match cs.mapM fz with|some ds=>.d (.agg ds)|none=>.agg cs)else cs.headD .undef
def lG:D->T
 |.slice s []=>.bq s
 |x=>.d x
def unbox:T->T
 |.d (.box d)=>.bu d.cells.length [d] 0 0
 |.d (.self f)=>.bu 1 [.aH f [.self f]] 0 0
 |t=>t
def nq(g:FuncId)(ts:List T):T:=match ts.mapM fz with
 |some ds=>.d (.aH g ds)
 |none=>.aH g ts
def setAt{α:Type}(l:List α)(off:Nat)(xs:List α):List α:=l.take off++xs++l.drop (off+xs.length)
def bJ(E:cn)(t:TypeId):Nat:=((E t).map TI.size).getD 0
def oL(j:Nat->Option (Nat×Nat))(cells:List T):List (Nat×T)->Option (List T)
 | []=>some cells
 | (i,t)::rest=>match j i with
  |some (off,size)=>if(bB t).length=size/\off+size<=cells.length/\(bB t).all T.gq=true then oL j (setAt cells off (bB t)) rest else none
  |none=>none
def uZ(E:cn)(fs:List (Nat×TypeId))(i:Nat):Option (Nat×Nat):=(fs[i]?).map λf=>(f.1,bJ E f.2)
def eF(els:List D)(k:Nat):D:=(els[k]?).getD .dV
def ua:D->Bool
 |.agg _=>true
 |_=>false
def je(i:TI)(size:Nat)(els:List D)(k off:Nat):R:=
 if size=i.size/\off=0 then⟨.d (eF els k),.none,k<els.length/\ua (eF els k)=i.desc.agg⟩
 else⟨.d (eK i.desc.agg (((eF els k).cells.drop off).take i.size)),.none,k<els.length/\off+i.size<=size⟩
def fD(E:cn)(ty:TypeId)(l:List AO):T->R
 |.ptr id off=>match E ty,l[id]? with
  |some i,some (.var _ cs)=>if off+i.size<=cs.length then .ok (iF i.desc.agg ((cs.drop off).take i.size))else .bad
  |_,_=>.bad
 |.bu size els k off=>match E ty with
  |some i=>je i size els k off
  |none=>.bad
 |.bx id k off=>match E ty,l[id]? with
  |some i,some (.row _ size els)|some i,some (.bn _ size els)=>je i size els k off
  |_,_=>.bad
 |_=>.bad
def ot(l:List AO):T->T->R
 |.ptr id off,x=>match l[id]? with
  |some (.var ty cs)=>if off+(bB x).length<=cs.length then⟨.undef,.aQ (l.set id (.var ty (setAt cs off (bB x)))),((bB x).all T.gq)=true⟩else .bad
  |_=>.bad
 |.bx id k 0,.d x=>match l[id]? with
  |some (.row e size els)=>if x.cells.length=size then⟨.undef,.aQ (l.set id (.row e size (els.set k x))),x.cells.length=size/\x.cells.all D.one=true/\k<els.length⟩else(match eF els k with
   |.agg cs=>⟨.undef,.aQ (l.set id (.row e size (els.set k (.agg (setAt cs 0 x.cells))))),0+x.cells.length<=size/\x.cells.all D.one=true/\k<els.length⟩
   |_=>.bad)
  |_=>.bad
 |.bx id k (off+1),.d x=>match l[id]? with
  |some (.row e size els)=>(match eF els k with
   |.agg cs=>⟨.undef,.aQ (l.set id (.row e size (els.set k (.agg (setAt cs (off+1) x.cells))))),off+1+x.cells.length<=size/\x.cells.all D.one=true/\k<els.length⟩
   |_=>.bad)
  |_=>.bad
 |_,_=>.bad
def lS(E:cn)(s:TypeId)(f:Nat):T->R
 |.ptr id off=>match E s with|some ⟨_,_,_,.struct fs⟩=>(match fs[f]? with|some p=>if 0<bJ E p.2 then .ok (.ptr id (off+p.1))else .bad|none=>.bad)|_=>.bad
 |.bu size els k off=>match E s with|some ⟨_,_,_,.struct fs⟩=>(match fs[f]? with|some p=>if 0<bJ E p.2 then .ok (.bu size els k (off+p.1))else .bad|none=>.bad)|_=>.bad
 |.bx id k off=>match E s with|some ⟨_,_,_,.struct fs⟩=>(match fs[f]? with|some p=>if 0<bJ E p.2 then .ok (.bx id k (off+p.1))else .bad|none=>.bad)|_=>.bad
 |_=>.bad
def oK(E:cn)(s:TypeId)(f:Nat):T->R
 |.d (
    .agg cs)=>match E s with
  |some ⟨_,_,_,.struct fs⟩=>(match fs[f]? with
   |some p=>(match E p.2 with
    |some i=>if p.1+i.size<=cs.length/\0<i.size then .ok (.d (eK i.desc.agg ((cs.drop p.1).take i.size)))else .bad
    |none=>.bad)
   |none=>.bad)
  |_=>.bad
 |_=>.bad
def dM:T->Option (IntKind×Int)
 |.d (.int k n)=>some (k,n)
 |_=>none
def kN(E:cn)(t:TypeId)(l:List AO)(x i:T):R:=
 match E t,dM i with
 |some ⟨_,_,_,.slice e⟩,some (_,n)=>
  (match x with
  |.d (.slice size els)=>if size=bJ E e/\0<size then⟨.bu size els n.toNat 0,.none,0<=n/\n<els.length⟩else .bad
  |.row id=>(match l[id]? with
   |some (.row _ size els)|some (.bn _ size els)=>if size=bJ E e/\0<size then⟨.bx id n.toNat 0,.none,0<=n/\n<els.length⟩else .bad
   |_=>.bad)
  |_=>.bad)
 |some ⟨_,_,_,.array len e⟩,some (_,n)=>
  (match x with
  |.bu size els k off=>if(E e).isSome=true then⟨.bu size els k (off+n.toNat*bJ E e),.none,0<=n/\n<len⟩else .bad
  |_=>.bad)
 |_,_=>.bad
def mapOf(l:List AO):T->Option (List D×List D)
 |.d (.map ks vs)=>some (ks,vs)
 |.map id=>match l[id]? with
  |some (.map ks vs)|some (.dJ ks vs)|some (.bw _ _ ks vs _)=>some (ks,vs)
  |_=>none
 |_=>none
def kU(E:cn)(t:TypeId)(l:List AO)(x:T):R:=
 match E t with
 |some ⟨_,_,_,.string⟩=>(match x with |.d (.str s)=>.ok (.d (.int .i64 s.size))|_=>.bad)
 |some ⟨_,_,_,.slice _⟩=>(match x with
  |.d (.slice _ els)=>.ok (.d (.int .i64 els.length))
  |.bq _=>.ok (.d (.int .i64 0))
  |.row id=>(match l[id]? with
   |some (.row _ _ els)|some (.bn _ _ els)=>.ok (.d (.int .i64 els.length))
   |_=>.bad)
  |_=>.bad)
 |some ⟨_,_,_,.map _ _⟩=>(match mapOf l x with|some (ks,_)=>.ok (.d (.int .i64 ks.length))|none=>.bad)
 |_=>.bad
def ly(x:T)(lo hi:Option T):R:=
 match x with
 |.d (.slice size els)=>
  (match lo,hi with
  |none,none=>.ok x
  |some a,none=>(match dM a with|some (_,n)=>⟨.d (.slice size (els.drop n.toNat)),.none,0<=n/\n<=els.length⟩|none=>.bad)
  |none,some b=>(match dM b with|some (_,n)=>⟨.d (.slice size (els.take n.toNat)),.none,0<=n/\n<=els.length⟩|none=>.bad)
  |some a,some b=>(match dM a,dM b with
   |some (_,n),some (_,h)=>⟨.d (.slice size ((els.take h.toNat).drop n.toNat)),.none,0<=n/\n<=h/\h<=els.length⟩
   |_,_=>.bad))
 |_=>.bad
def mf(E:cn)(e:TypeId)(l:List AO)(id:Nat)(lo hi:Option T):R:=
 match l[id]? with
 |some (.row _ size els)=>if size=bJ E e/\(E e).isSome=true then
   (match lo,hi with
   |some a,none=>(match dM a with|some (_,n)=>⟨.sub id n.toNat els.length,.aQ l,0<=n/\n<=els.length⟩|none=>.bad)
   |none,some b=>(match dM b with|some (_,n)=>⟨.sub id 0 n.toNat,.aQ l,0<=n/\n<=els.length⟩|none=>.bad)
   |_,_=>.bad)else .bad
 |_=>.bad
def mA(E:cn)(t:TypeId)(l:List AO)(x:T):R:=
 match E t,x with
 |some ⟨_,_,_,.slice e⟩,.sub id lo hi=>(match E e,l[id]? with
  |some i,some (.row j size els)=>if size=i.size/\hi=els.length/\0<size then⟨.d (.aL []),.aQ (l.set id (.row j size (els.take lo++List.replicate (hi-lo) (eK i.desc.agg i.zero)))),True⟩else .bad
  |_,_=>.bad)
 |_,_=>.bad
def mF(E:cn)(t:TypeId)(l:List AO)(nid:Nat)(a b:T):R:=
 match E t,dM a,dM b with
 |some ⟨_,_,_,.slice e⟩,some (_,n),some (_,c)=>(match E e with
  |some i=>if 0<i.size then⟨.row nid,.aQ (l++[.row e i.size (List.replicate n.toNat (eK i.desc.agg i.zero))]),0<=n/\c=n/\n*i.bytes<=140737488355328/\n<=9223372036854775807⟩else .bad
  |none=>.bad)
 |_,_,_=>.bad
def iO(E:cn)(t:TypeId)(l:List AO)(nid:Nat)(s x:T):R:=
 match E t with
 |some ⟨_,_,_,.slice e⟩=>(match E e with
  |some i=>
   (match dw l x with
   |some (.slice k new,l1)=>if(k=i.size\/new.isEmpty)/\0<i.size then
     (match s with
     |.bq _=>⟨.row nid,.aQ (l1++[.row e i.size new]),new.length*i.bytes<=140737488355328/\new.length<=9223372036854775807⟩
     |.row id=>(match l1[id]? with
      |some (.row j size els)=>if j=e/\size=i.size/\nid=l1.length then⟨.row nid,.aQ (l1.set id .dead++[.row e size (els++new)]),(els.length+new.length)*i.bytes<=140737488355328/\els.length+new.length<=9223372036854775807⟩else .bad
      |_=>.bad)
     |.bI id _=>(match l1[id]? with
      |some (.bn j size els)=>if j=e/\size=i.size/\nid=l1.length then⟨.bI nid (.slice size (els++new)),.aQ (l1.set id .dead++[.bn e size (els++new)]),(els.length+new.length)*i.bytes<=140737488355328/\els.length+new.length<=9223372036854775807⟩else .bad
      |_=>.bad)
     |_=>.bad)else .bad
   |_=>.bad)
  |none=>.bad)
 |_=>.bad
def vX(C:yJ)(f:FuncId)(l:List AO)(ts:List T):R:=
 match fw l ts with
 |some (ds,l')=>(match C f ds with
  |some (x,ob)=>⟨.d x,if ts.all (pw l)then .none else .aQ l',ob⟩
  |none=>.bad)
 |none=>.bad
def qI(c a b:T):R:=
 match c with
 |.d (.bool c)=>
  let f:Bool->T->Option (Bool×Prop):=λj t=>match t with
   |.d (.bool x)=>some (x,True)
   |.cond pc (.d (.bool x))=>some (x,c=j->holds pc)
   |_=>none
  (match f true a,f false b with
  |some (x,p),some (y,q)=>⟨.d (.bool (if c then x else y)),.none,p/\q⟩
  |some (x,p),none=>⟨.d (.bool x),.none,c=true/\p⟩
  |none,some (y,q)=>⟨.d (.bool y),.none,c=false/\q⟩
  |none,none=>.bad)
 |_=>.bad
def Eb(E:cn)(t:TypeId):Nat:=match E t with|some ⟨_,_,_,.slice e⟩=>bJ E e|_=>0
def typed(E:cn)(t:TypeId):T->T
 |.bq _=>.bq (Eb E t)
 |x=>x
def fW(E:cn):List TypeId->List T->List T
 |t::ts,x::xs=>typed E t x::fW E ts xs
 |_,xs=>xs
structure Env where
 E:cn
 C:yJ
 jE:TypeId->Option (List Lf)
 F:Di:=λ_ _ _=>none
 P:Program
 inl:FuncId->Bool:=λ_=>false
 sub:Bool:=false
def th(V:Env)(g:FuncId)(l:List AO)(ts:List T):R:=
 match V.F g ts l with
 |some ⟨t,l',ob⟩=>⟨t,.aQ l',ob⟩
 |none=>vX V.C g l ts
def ei(n:Int):List D->Nat->Option Nat
 | [],_=>none
 |.int _ a::r,i=>if n=a then some i else ei n r (i+1)
 |_::_,_=>none
def nH(k:IntKind)(B:List D):Bool:=B.all λd=>match d with |.int j _=>j == k|_=>false
def kX(E:cn)(t:TypeId):Option (IntKind×TI):=match E t with
 |some ⟨_,_,_,.map kt e⟩=>match E kt,E e with
  |some ⟨_,_,_,.dE kk⟩,some i=>some (kk,i)
  |_,_=>none
 |_=>none
def rP(E:cn)(t:TypeId)(l:List AO)(x k:T)(ok:Bool):R:=
 match kX E t,mapOf l x,dM k with
 |some (kk,i),some (ks,vs),some (B,n)=>
  if kk=B then
   match ei n ks 0 with
   |some j=>⟨if ok then .d (.aL [eF vs j,.bool true])else .d (eF vs j),.none,nH kk ks=true⟩
   |none=>⟨if ok then .d (.aL [eK i.desc.agg i.zero,.bool false])else .d (eK i.desc.agg i.zero),.none,nH kk ks=true⟩
  else .bad
 |_,_,_=>.bad
def mG(E:cn)(t:TypeId)(l:List AO)(x k v:T):R:=
 match kX E t,x,dM k,iw v with
 |some (kk,_),.map id,some (B,n),some d=>
  if kk=B then
   match l[id]? with
   |some (.map ks vs)=>⟨.undef,.aQ (l.set id (match ei n ks 0 with|some j=>.map ks (vs.set j d)|none=>.map (ks++[.int kk n]) (vs++[d]))),nH kk ks=true⟩
   |_=>.bad
  else .bad
 |_,_,_,_=>.bad
def nN(E:cn)(t:TypeId)(l:List AO)(x k:T):R:=
 match kX E t,x,dM k with
 |some (kk,_),.map id,some (B,n)=>
  if kk=B then
   match l[id]? with
   |some (.map ks vs)=>⟨.d (.aL []),.aQ (l.set id (match ei n ks 0 with|some j=>.map (ks.eraseIdx j) (vs.eraseIdx j)|none=>.map ks vs)),nH kk ks=true⟩
   |_=>.bad
  else .bad
 |_,_,_=>.bad
def UH(s:ByteArray)(n:Nat):Int:=((s[n]?).getD 0).toNat
def Po:Value->D
 |.int k n=>.int k n
 |_=>.dV
def yp(s:ByteArray):List D:=(Conv.runesFrom s s.size 0 #[]).toList.map Po
def pZ(E:cn)(j t:TypeId)(x:T):R:=
 match E j,E t,x with
 |some ⟨_,_,_,.dE _⟩,some ⟨_,_,_,.dE k⟩,.d (.int _ n)=>.ok (.d (.int k (k.wrap n)))
 |some ⟨_,_,_,.string⟩,some ⟨_,_,_,.slice e⟩,.d (.str s)=>(match E e with
  |some ⟨1,_,_,.dE .i32⟩=>⟨.d (.slice 1 (yp s)),.none,s.size<=16777216⟩
  |_=>.bad)
 |_,_,_=>.bad
def yf(E:cn)(t:TypeId)(l:List AO)(nid:Nat)(x:T):R:=match E t,x with
 |some ⟨_,_,_,.map _ _⟩,.map id=>(match dw l (.map id)with
  |some (.map ks vs,l')=>⟨.ptr nid 0,.aQ (l'++[.iter ks vs []]),True⟩
  |_=>.bad)
 |some ⟨_,_,_,.map _ _⟩,.d (.map ks vs)=>⟨.ptr nid 0,.aQ (l++[.iter ks vs []]),True⟩
 |_,_=>.bad
def wc(l:List AO)(x:T):R:=match x with
 |.ptr id 0=>(match l[id]? with
  |some (.iter ks vs done)=>(match done.getLast? with
   |some i=>(match ks[i]?,vs[i]? with|some k,some v=>.ok (.d (.aL [k,v]))|_,_=>.bad)
   |none=>.bad)
  |_=>.bad)
 |_=>.bad
def ue:D->D->Bool
 |.agg a,.agg b=>c9 a b
 |_,_=>false
def jA(k:D):List D->Nat->Option Nat
 | [],_=>none
 |a::r,i=>if ue k a=true then some i else jA k r (i+1)
def qk(kk:IntKind):D->Bool
 |.int j _=>j == kk
 |_=>false
def oT(n:Nat)(kk:IntKind):D->Bool
 |.agg cs=>decide (cs.length=n)&&cs.all (qk kk)
 |_=>false
def wF(n:Nat)(kk:IntKind)(j:List D):Bool:=j.all (oT n kk)
def Iz:List (Nat×TypeId)->Bool
 | (o,t)::p::r=>decide ((o,t)::p::r=(List.range (r.length+2)).map λj=>(j,t))
 |_=>false
def Ak(E:cn)(k:TypeId):Option (Nat×IntKind):=match E k with
 |some ⟨_,_,_,.array n j⟩=>(match E j with|some ⟨_,_,_,.dE kk⟩=>some (n,kk)|_=>none)
 |some ⟨_,_,_,.struct fs⟩=>(match fs with
  | (_,t0)::_=>(match E t0 with
   |some ⟨_,_,_,.dE kk⟩=>if Iz fs=true then some (fs.length,kk)else none
   |_=>none)
  | []=>none)
 |_=>none
def nP(E:cn)(t:TypeId):Option (Nat×IntKind×TI):=match E t with
 |some ⟨_,_,_,.map kt e⟩=>match Ak E kt,E e with
  |some (n,kk),some i=>some (n,kk,i)
  |_,_=>none
 |_=>none
def uj(E:cn)(t:TypeId)(l:List AO)(x k:T)(ok:Bool):R:=
 match nP E t,mapOf l x,k with
 |some (n,kk,i),some (ks,vs),.d B=>
  if oT n kk B=true then
   match jA B ks 0 with
   |some j=>⟨if ok then .d (.aL [eF vs j,.bool true])else .d (eF vs j),.none,wF n kk ks=true⟩
   |none=>⟨if ok then .d (.aL [eK i.desc.agg i.zero,.bool false])else .d (eK i.desc.agg i.zero),.none,wF n kk ks=true⟩
  else .bad
 |_,_,_=>.bad
def nO(E:cn)(t:TypeId)(l:List AO)(x k v:T):R:=
 match nP E t,x,k,iw v with
 |some (n,kk,_),.map id,.d B,some d=>
  if oT n kk B=true then
   match l[id]? with
   |some (.map ks vs)=>⟨.undef,.aQ (l.set id (match jA B ks 0 with|some j=>.map ks (vs.set j d)|none=>.map (ks++[B]) (vs++[d]))),wF n kk ks=true⟩
   |_=>.bad
  else .bad
 |_,_,_,_=>.bad
def su(E:cn)(t:TypeId)(l:List AO)(x k v:T):R:=if(nP E t).isSome=true then nO E t l x k v else mG E t l x k v
def qo(E:cn)(t:TypeId)(l:List AO)(x k:T)(ok:Bool):R:=if(nP E t).isSome=true then uj E t l x k ok else rP E t l x k ok
def evalOp(
      V:Env)(ρ:Operand->T)(l:List AO)(nid:Nat)(o:Oper):R:=
 match o.op with
 |.move x |.assign x=>.ok (typed V.E o.type (ρ x))
 |.pick c a b=>qI (ρ c) (ρ a) (ρ b)
 |.box e x=>⟨.ptr nid 0,.new (.var e (bB (ρ x))),((bB (ρ x)).all T.gq)=true⟩
 |.alloc e=>(match V.E e with|some i=>⟨.ptr nid 0,.new (.var e (i.zero.map lG)),True⟩|none=>.bad)
 |.load t a=>fD V.E t l (unbox (ρ a))
 |.store t a x=>if(bB (ρ x)).length=bJ V.E t/\0<bJ V.E t then ot l (ρ a) (ρ x)else .bad
 |.fieldAddr s x f=>lS V.E s f (unbox (ρ x))
 |.field s x f=>oK V.E s f (ρ x)
 |.binOp B ty x y _=>(match ρ x,ρ y with |.d a,.d b=>nU (eS V.jE B ty a b)|_,_=>.bad)
 |.unOp B _ x=>(match ρ x with |.d a=>nU (yE B a)|_=>.bad)
 |.indexAddr t x i=>kN V.E t l (unbox (ρ x)) (ρ i)
 |.slice t x lo hi none=>(match V.E t,ρ x with
  |some ⟨_,_,_,.slice e⟩,.d (.slice size els)=>if size=bJ V.E e/\(V.E e).isSome=true then ly (.d (.slice size els)) (lo.map ρ) (hi.map ρ)else .bad
  |some ⟨_,_,_,.slice e⟩,.row id=>if V.sub=true then mf V.E e l id (lo.map ρ) (hi.map ρ)else(match dw l (.row id)with
   |some (.slice size els,l')=>if size=bJ V.E e/\(V.E e).isSome=true then⟨(ly (.d (.slice size els)) (lo.map ρ) (hi.map ρ)).t,.aQ l',(ly (.d (.slice size els)) (lo.map ρ) (hi.map ρ)).ob⟩else .bad
   |_=>.bad)
  |_,_=>.bad)
 |.build t parts=>(match V.E t with
  |some ⟨_,_,z,.struct fs⟩=>if fs.all (λf=>(V.E f.2).isSome)=true then(match oL (uZ V.E fs) (z.map lG) (parts.toList.map λp=>(p.1,ρ p.2))with|some cs=>.ok (iF true cs)|none=>.bad)else .bad
  |_=>.bad)
 |.buildSlice t len parts=>(match V.E t with
  |some ⟨_,_,_,.slice e⟩=>
   if(
     V.E e).isSome=true/\0<bJ V.E e then
    (if len=0 then⟨.row nid,.aQ (l++[.row e (bJ V.E e) []]),parts.toList.isEmpty=true⟩
    else(match parts.toList.mapM (λp=>iw (ρ p.2))with
     |some ds=>if parts.toList.map (·.1)=List.range len/\len*bJ V.E e<=16777216/\ds.all (λd=>d.cells.length == bJ V.E e&&d.cells.all D.one)=true then .ok (.d (.slice (bJ V.E e) ds))else .bad
     |none=>(match fw l (parts.toList.map λp=>ρ p.2)with
      |some (ds,l')=>if parts.toList.map (·.1)=List.range len/\len*bJ V.E e<=16777216/\ds.all (λd=>d.cells.length == bJ V.E e&&d.cells.all D.one)=true then⟨.d (.slice (bJ V.E e) ds),.aQ l',True⟩else .bad
      |none=>.bad)))
   else .bad
  |_=>.bad)
 |.extract x i=>(match ρ x with
  |.d (.aL ds)=>(match ds[i]? with|some d=>.ok (.d d)|none=>.bad)
  |.aL ts=>(match ts[i]? with|some t=>.ok t|none=>.bad)
  |_=>.bad)
 |.call c=>(match c.callee with
  |.value f=>(match ρ f with
   |.d (.fn g)=>th V g l (fW V.E c.argTypes.toList (c.args.toList.map ρ))
   |.d (.aH g ds)=>th V g l (fW V.E c.argTypes.toList (c.args.toList.map ρ)++ds.map .d)
   |_=>.bad)
  |.builtin .len=>(match c.args.toList,c.argTypes.toList with| [x],[t]=>kU V.E t l (ρ x)|_,_=>.bad)
  |.builtin .append=>(match c.args.toList,c.argTypes.toList with
   | [s,x],[t,t']=>if t=t' then iO V.E t l nid (ρ s) (ρ x)else .bad
   |_,_=>.bad)
  |.builtin .clear=>(match c.args.toList,c.argTypes.toList with| [x],[t]=>mA V.E t l (ρ x)|_,_=>.bad)
  |.builtin .delete=>(match c.args.toList,c.argTypes.toList with| [x,k],[t,_]=>nN V.E t l (ρ x) (ρ k)|_,_=>.bad)
  |.builtin .max=>(match c.args.toList.map ρ with| [.d (.int k a),.d (.int j b)]=>if k=j then .ok (.d (.int k (max a b)))else .bad|_=>.bad)
  |.builtin .min=>(match c.args.toList.map ρ with| [.d (.int k a),.d (.int j b)]=>if k=j then .ok (.d (.int k (min a b)))else .bad|_=>.bad)
  |_=>.bad)
 |.makeMap _ none=>⟨.map nid,.aQ (l++[.map [] []]),True⟩
 |.mapUpdate t m k x |.insert t m k x=>su V.E t l (ρ m) (ρ k) (ρ x)
 |.lookup t x k ok=>qo V.E t l (ρ x) (ρ k) ok
 |.convert F t x=>pZ V.E F t (ρ x)
 |.makeFunc (.func g) first caps=>if first.isEmpty=true then .ok (nq g (caps.toList.map ρ))else .bad
 |.range t x=>yf V.E t l nid (ρ x)
 |.entry x=>wc l (ρ x)
 |.makeSlice t a b=>mF V.E t l nid (ρ a) (ρ b)
 |_=>.bad
variable [bm]
def w6{B:Nat}{w w':World}{e:TypeId}{size n:Nat}{v:Value}{xs:List Value}(h:w.ownsRow B e size v n xs)(G:∀b,own v=some b->w'.heap[b]?=w.heap[b]?):w'.ownsRow B e size v n xs:=by
 refine⟨h.1,?_⟩;rcases h.2 with F| ⟨g,cap,cur,rfl,j,k,rest⟩
 ·exact .inl F
 exact .inr ⟨g,cap,cur,rfl,j,(G g rfl).trans k,rest⟩
def cZ.AA{w:World}{I:aD}{B:Nat}{e:TypeId}{size n:Nat}{v:Value}{xs:List Value}{b:Nat}(h:cZ w I)(k:w.ownsRow B e size v n xs)(j:own v=some b):¬I.df b:=by
 rcases k.2 with ⟨rfl,_⟩| ⟨g,G,cur,rfl,_,F,_⟩
 ·cases j
 simp only[own,c4]at j;subst j;exact h.l5 F (by simp)
structure Gq(w w':World)(I J:aD)(m m':Nat->Value)(l l':List AO):Prop where
 stay:∀b u,I.cell b 0=some u->(∀q,cA l q=true->own (m q)≠some b)->w'.heap[b]?=w.heap[b]?/\J.cell b=I.cell b/\J.mp b=I.mp b
 bn:∀q b,cA l' q=true->own (m' q)=some b->(∃q',cA l q'=true/\own (m q')=some b)\/I.cell b 0=none
def Ab{l:List AO}{id q:Nat}{o:AO}(h:cA (l.set id o) q=true):cA l q=true\/q=id/\o.cA=true:=by
 unfold cA at h⊢;rw[e0]at h;by_cases j:id=q
 ·subst j;rw[if_pos rfl]at h;split at h
  ·exact .inr ⟨rfl,by simpa using h⟩
  simp at h
 rw[if_neg j]at h;exact .inl h
def ub{l:List AO}{q:Nat}{o:AO}(h:cA (l++[o]) q=true):q<l.length/\cA l q=true\/q=l.length/\o.cA=true:=by
 unfold cA at h⊢;rcases Nat.lt_trichotomy q l.length with hq|hq|hq
 ·rw[e1 hq]at h;exact .inl ⟨hq,h⟩
 ·subst hq;simp at h;exact .inr ⟨rfl,h⟩
 rw[hJ (by simp;omega)]at h;simp at h
theorem Gq.set{w w':World}{I:aD}{m:Nat->Value}{l:List AO}{id:Nat}{o':AO}(F:∀b u,I.cell b 0=some u->w'.heap[b]?=w.heap[b]?)(k:o'.cA=true->∀b,own (m id)=some b->I.cell b 0=none):Gq w w' I I m m l (l.set id o'):=
 ⟨λb u G _=>⟨F b u G,rfl,rfl⟩,λq b B j=>(Ab B).elim (λh=>.inl ⟨q,h,j⟩) λh=>.inr (k h.2 b (h.1▸j))⟩
def Gq.push{w w':World}{I:aD}{m:Nat->Value}{l:List AO}{v:Value}{o':AO}(G:∀b u,I.cell b 0=some u->w'.heap[b]?=w.heap[b]?)(B:o'.cA=false):Gq w w' I I m (λk=>if k=l.length then v else m k) l (l++[o']):=
 ⟨λb u M _=>⟨G b u M,rfl,rfl⟩,λq b F j=>(ub F).elim (λh=>.inl ⟨q,h.2,by simpa [Nat.ne_of_lt h.1]using j⟩) λh=>by rw[B]at h;cases h.2⟩
theorem Gq.id{w:World}{I:aD}{m:Nat->Value}{l l':List AO}(h:∀q,cA l' q=true->cA l q=true):Gq w w I I m m l l':=⟨λ_ _ _ _=>⟨rfl,rfl,rfl⟩,λq b k j=>.inl ⟨q,h q k,j⟩⟩
def jr.cF{B:Nat}{w w':World}{I J:aD}{v:Value}{e size:Nat}{els:List D}(ab:∀v d,Rd I v d->Rd J v d)(h:∀b,own v=some b->w'.heap[b]?=w.heap[b]?/\J.cell b=I.cell b/\J.mp b=I.mp b)(k:jr B w I v e size els):jr B w' J v e size els:=by
 obtain⟨xs,O,U,Y,Z⟩:=k;refine⟨xs,w6 O (λb F=>(h b F).1),U,λj x y G ad=>ab _ _ (Y j x y G ad),λb F=>?_⟩;obtain⟨_,M,N⟩:=h b F;obtain⟨ae,af,ag⟩:=Z b F;exact⟨N.trans ae,λj x G=>by rw[M];exact af j x G,λj aa=>by rw[M];exact ag j aa⟩
theorem jr.iP{B:Nat}{w:World}{I:aD}{v:Value}{e size b:Nat}{els:List D}(N:0<size)(M:els≠[])(k:jr B w I v e size els)(G:own v=some b):∃u,I.cell b 0=some u:=by
 obtain⟨xs,j,O,U,F⟩:=k;have:0<xs.length:=by rw[j.1];exact adY (List.length_pos_iff.2 M) N
 exact⟨_,(F b G).2.1 0 _ (c5 this)⟩
def yQ.cF{B:Nat}{w w':World}{I J:aD}{m m':Nat->Value}{l l':List AO}{e size:Nat}{F:ME}{vs:List D}{U:Option Nat}(ai:∀v d,Rd I v d->Rd J v d)(ae:Gq w w' I J m m' l l')(aj:0<size)(al:F.1.size=vs.length)(k:yQ B w I m l e size F vs U):yQ B w' J m' l' e size F vs U:=by
 obtain⟨aa,ab,ag,ad⟩:=k;have iP:∀i,i<F.1.size->U≠some i->∃u,I.cell (aa i) 0=some u:=λi hi j=>by
  obtain⟨els,_,Y,M,Z⟩:=ab i F.1[i] vs[i] j (e5 hi) (c5 (by omega));exact Z.iP aj Y M
 refine⟨aa,λi en d j af ah=>?_,ag,λq i N hi j G=>?_⟩
 ·obtain⟨els,ak,Y,M,Z⟩:=ab i en d j af ah;refine⟨els,ak,Y,M,Z.cF ai λb G=>?_⟩;rw[M]at G;injection G with G;subst G;have hi:i<F.1.size:=(e6.1 af).1;obtain⟨u,O⟩:=iP i hi j;exact ae.stay _ u O λq N=>ad q i N hi j
 rcases ae.bn q _ N G with ⟨q',k1,k2⟩|hn
 ·exact ad q' i k1 hi j k2
 obtain⟨u,O⟩:=iP i hi j;rw[O]at hn;cases hn
def dZ.gm{B:Nat}{w:World}{I:aD}{m m':Nat->Value}{l l':List AO}{v:Value}{e size:Nat}{k vs:List D}{F:Option Nat}(af:∀q,cA l' q=true->∃j,cA l j=true/\own (m j)=own (m' q))(h:dZ B w I m l v (.bw e size k vs F)):dZ B w I m' l' v (.bw e size k vs F):=by
 obtain⟨b,M,h0,N,O,U,Y,Z,aa,ab,ad,G,ai,aj,ak⟩:=h;refine⟨b,M,h0,N,O,U,Y,Z,aa,ab,ad,G,ai,aj,λq i ah hi ag ae=>?_⟩;obtain⟨j,al,an⟩:=af q ah;exact ak j i al hi ag (an.trans ae)
def dZ.MF{B:Nat}{w w':World}{I J:aD}{m m':Nat->Value}{l l':List AO}{v:Value}{o:AO}(N:Le I m l J m' l')(ag:∀b,own v=some b->w'.heap[b]?=w.heap[b]?)(af:∀b,own v=some b->J.cell b=I.cell b/\J.mp b=I.mp b)(ar:o.uc=false)(h:dZ B w I m l v o):dZ B w' J m' l' v o:=by
 cases o with
 |bw e size an vs aA=>cases ar
 |dead=>trivial
 |var ty cs=>
  obtain⟨b,vs,rfl,U,Y,M,F,ab⟩:=h;refine⟨b,vs,rfl,U,(ag b rfl).trans Y,M,λi x t ae ht=>⟨(F i x t ae ht).1.mono N,(F i x t ae ht).2⟩,?_⟩;obtain⟨G,O⟩:=af b rfl;exact⟨λo=>by rw[G];exact ab.1 o,O.trans ab.2⟩
 |row e size els=>
  obtain⟨xs,U,Y,M,F⟩:=h;refine⟨xs,w6 U ag,Y,λj x y ae al=>(M j x y ae al).mono N.du,λb ai=>?_⟩;obtain⟨G,O⟩:=af b ai;exact⟨λo=>by rw[G];exact(F b ai).1 o,O.trans (F b ai).2⟩
 |bn e size els=>
  obtain⟨xs,U,Y,M,F⟩:=h;refine⟨xs,w6 U ag,Y,λj x y ae al=>(M j x y ae al).mono N.du,λb ai=>?_⟩;obtain⟨G,O⟩:=af b ai;obtain⟨av,aw,ax⟩:=F b ai;exact⟨O.trans av,λj x ae=>by rw[G];exact aw j x ae,λj aq=>by rw[G];exact ax j aq⟩
 |map an vs=>
  obtain⟨b,aj,rfl,U,Y,M,F,ab,ad,ah⟩:=h;obtain⟨G,O⟩:=af b rfl;exact⟨b,aj,rfl,U,dR.to (ag b rfl) Y,M,F,λi e d aa Z=>(ab i e d aa Z).mono N.du,λi e d aa Z=>(ad i e d aa Z).mono N.du,λo=>by rw[G];exact ah.1 o,O.trans ah.2⟩
 |dJ an vs=>
  obtain⟨b,aj,rfl,U,Y,M,F,ab,ad,ah,ak⟩:=h;obtain⟨G,O⟩:=af b rfl;exact⟨b,aj,rfl,U,dR.to (ag b rfl) Y,M,F,λi e d aa Z=>(ab i e d aa Z).mono N.du,λi e d aa Z=>(ad i e d aa Z).mono N.du,λo=>by rw[G];exact ah o,O.trans ak⟩
 |iter an vs done=>
  obtain⟨b,ay,aj,seen,rfl,U,Y,M,F,ab,ad,ah,ak,ao⟩:=h;obtain⟨G,O⟩:=af b rfl;exact⟨b,ay,aj,seen,rfl,U,(ag b rfl).trans Y,⟨λr au=>N.du.mp _ _ (M.1 r au),M.2⟩,F,ab,λi e d aa Z=>(ad i e d aa Z).mono N.du,λi e d aa Z=>(ah i e d aa Z).mono N.du,ak,λo=>by rw[G];exact ao.1 o,O.trans ao.2⟩
 |frame base vals t=>exact⟨h.1,hB h.2.1 N.len,λk=>(h.2.2 k).mono (N.take base)⟩
 |loop base n ps bc az t st aB=>
  obtain⟨b,r,rfl,U,Y,M,F,ab,ad⟩:=h;obtain⟨G,O⟩:=af b rfl;exact⟨b,r,rfl,U,(ag b rfl).trans Y,M,hB F N.len,λk=>(ab k).mono (N.take base),λo=>by rw[G];exact ad.1 o,O.trans ad.2⟩
def dZ.cF{B:Nat}{w w':World}{I J:aD}{m m':Nat->Value}{l l':List AO}{v:Value}{o:AO}(j:Le I m l J m' l')(Y:∀b,own v=some b->w'.heap[b]?=w.heap[b]?)(O:∀b,own v=some b->J.cell b=I.cell b/\J.mp b=I.mp b)(aj:Gq w w' I J m m' l l')(h:dZ B w I m l v o):dZ B w' J m' l' v o:=by
 cases U:o.uc with
 |false=>exact h.MF j Y O U
 |true=>
  cases o with
  |bw e size ak vs al=>
   obtain⟨b,ab,rfl,ad,ae,af,G,ag,ah,M,N,ai⟩:=h;obtain⟨Z,aa⟩:=O b rfl;exact⟨b,ab,rfl,ad,dR.to (Y b rfl) ae,af,G,λi e d F k=>(ag i e d F k).mono j.du,λi e d F k=>(ah i e d F k).mono j.du,⟨λo=>by rw[Z];exact M.1 o,aa.trans M.2⟩,N,ai.cF (λ_ _ h=>h.mono j.du) aj N G⟩
  |_=>cases U
def dZ.lt{B:Nat}{w:World}{I:aD}{m:Nat->Value}{l:List AO}{v:Value}{o:AO}(h:dZ B w I m l v o)(Z:o ≠ .dead){b:Nat}(j:own v=some b):b<w.heap.size/\B<=b:=by
 cases o with
 |dead=>exact absurd rfl Z
 |var ty cs=>
  obtain⟨G,vs,rfl,k,F,_⟩:=h;simp only[own,c4]at j;subst j;exact⟨(e6.1 F).1,k⟩
 |row e size els=>
  obtain⟨xs,k,_⟩:=h;rcases k.2 with ⟨rfl,_⟩| ⟨g,Y,cur,rfl,N,O,_⟩
  ·simp[own]at j
  simp only[own,c4]at j;subst j;exact⟨(e6.1 O).1,N⟩
 |bn e size els=>
  obtain⟨xs,k,_⟩:=h;rcases k.2 with ⟨rfl,_⟩| ⟨g,Y,cur,rfl,N,O,_⟩
  ·simp[own]at j
  simp only[own,c4]at j;subst j;exact⟨(e6.1 O).1,N⟩
 |map U vs=>
  obtain⟨G,M,rfl,k,F,_⟩:=h;simp only[own,c4]at j;subst j;exact⟨(e6.1 F.1).1,k⟩
 |dJ U vs=>
  obtain⟨G,M,rfl,k,F,_⟩:=h;simp only[own,c4]at j;subst j;exact⟨(e6.1 F.1).1,k⟩
 |iter U vs done=>
  obtain⟨G,ab,M,seen,rfl,k,F,_⟩:=h;simp only[own,c4]at j;subst j;exact⟨(e6.1 F).1,k⟩
 |bw e size U vs ad=>
  obtain⟨G,M,rfl,k,F,_⟩:=h;simp only[own,c4]at j;subst j;exact⟨(e6.1 F.1).1,k⟩
 |frame base vals t=>rw[h.1]at j;cases j
 |loop base n ps bc aa t st ae=>
  obtain⟨G,r,rfl,k,F,_⟩:=h;simp only[own,c4]at j;subst j;exact⟨(e6.1 F).1,k⟩
def dZ.IA{B:Nat}{w:World}{I:aD}{m:Nat->Value}{l:List AO}{v:Value}{o:AO}(h:dZ B w I m l v o)(Z:o ≠ .dead){b:Nat}(j:own v=some b):o.cA=true\/I.cell b 0=none:=by
 cases o with
 |dead=>exact absurd rfl Z
 |bn e size els=>exact .inl rfl
 |row e size els=>obtain⟨xs,_,_,_,N⟩:=h;exact .inr ((N b j).1 0)
 |frame base vals t=>rw[h.1]at j;cases j
 |var ty cs=>obtain⟨k,vs,rfl,_,_,_,_,O⟩:=h;injection j with j;subst j;exact .inr (O.1 0)
 |map M vs=>obtain⟨k,G,rfl,_,_,_,_,_,_,F⟩:=h;injection j with j;subst j;exact .inr (F.1 0)
 |dJ M vs=>obtain⟨k,G,rfl,_,_,_,_,_,_,F,_⟩:=h;injection j with j;subst j;exact .inr (F 0)
 |iter M vs done=>obtain⟨k,ab,G,seen,rfl,_,_,_,_,_,_,_,_,Y⟩:=h;injection j with j;subst j;exact .inr (Y.1 0)
 |bw e size M vs ad=>obtain⟨k,G,rfl,_,_,_,_,_,_,F,_⟩:=h;injection j with j;subst j;exact .inr (F.1 0)
 |loop base n ps bc aa t st ae=>obtain⟨k,r,rfl,_,_,_,_,_,U⟩:=h;injection j with j;subst j;exact .inr (U.1 0)
def dZ.l5{B:Nat}{w:World}{I:aD}{m:Nat->Value}{l:List AO}{v:Value}{o:AO}(h:dZ B w I m l v o)(G:cZ w I)(U:o ≠ .dead){b:Nat}(j:own v=some b):¬I.df b:=by
 cases o with
 |dead=>exact absurd rfl U
 |var ty cs=>
  obtain⟨M,vs,rfl,F,k,_⟩:=h;simp only[own,c4]at j;subst j;exact G.l5 k (by simp)
 |row e size els=>obtain⟨xs,F,_⟩:=h;exact G.AA F j
 |bn e size els=>obtain⟨xs,F,_⟩:=h;exact G.AA F j
 |map O vs=>
  obtain⟨M,N,rfl,F,k,_⟩:=h;simp only[own,c4]at j;subst j;exact G.l5 k.1 (by simp)
 |dJ O vs=>
  obtain⟨M,N,rfl,F,k,_⟩:=h;simp only[own,c4]at j;subst j;exact G.l5 k.1 (by simp)
 |iter O vs done=>
  obtain⟨M,Z,N,seen,rfl,F,k,_⟩:=h;simp only[own,c4]at j;subst j;exact G.l5 k (by simp)
 |bw e size O vs aa=>
  obtain⟨M,N,rfl,F,k,_⟩:=h;simp only[own,c4]at j;subst j;exact G.l5 k.1 (by simp)
 |frame base vals t=>rw[h.1]at j;cases j
 |loop base n ps bc Y t st ab=>
  obtain⟨M,r,rfl,F,k,_⟩:=h;simp only[own,c4]at j;subst j;exact G.l5 k (by simp)
def bN{l:List AO}{id:Nat}:alive l id=true↔∃o,l[id]?=some o/\o ≠ .dead:=by
 unfold alive isVar isRow;cases h:l[id]? with
 |none=>simp
 |some o=>cases o<;>simp[AO.isVar,AO.isRow]
section
variable {w0 w w':World}{I0 I J:aD}{m:Nat->Value}{l:List AO}
theorem aJ.call(h:aJ w0 I0 w I m l)(F:dq w.heap.size w w')(B:ff w.heap.size I J)(Y:cZ w' J):aJ w0 I0 w' J m l/\Le I m l J m l:=by
 have O:Le I m l J m l:=⟨B.le (λb j=>h.sat.kW j),ec _,λ_ _ k=>⟨k,rfl⟩,λ_ _ k=>⟨k,rfl⟩,λ_ _ _ els _ k=>⟨els,k⟩⟩;refine⟨⟨h.below.trans (F.mono h.below.size),Y,h.ext.trans B h.below.size,λid o M=>?_,h.sep⟩,O⟩;by_cases j:o=.dead
 ·subst j;trivial
 exact(h.obj id o M).cF O (λb G=>F.block b ((h.obj id o M).lt j G).1) (λb G=>⟨B.cell b ((h.obj id o M).lt j G).1,B.mp b ((h.obj id o M).lt j G).1⟩) ⟨λb u N _=>⟨F.block b (h.sat.lt N),B.cell b (h.sat.lt N),B.mp b (h.sat.lt N)⟩,λq b U F=>.inl ⟨q,U,F⟩⟩
def aQ(m:Nat->Value)(id:Nat)(v:Value):Nat->Value:=λk=>if k=id then v else m k
def dH(m:Nat->Value)(id:Nat)(v:Value):aQ m id v id=v:=by simp[aQ]
def bU(m:Nat->Value){id k:Nat}(v:Value)(h:k≠id):aQ m id v k=m k:=by simp[aQ,h]
theorem Le.new{nid:Nat}{o:AO}{v:Value}(G:l[nid]?=some .dead)(M:o.isRow=false):Le I m l I (aQ m nid v) (l.set nid o):=by
 have k:∀id,id≠nid->(l.set nid o)[id]?=l[id]?:=λid h=>by rw[e0];simp[hU h]
 have N:nid<l.length:=(db.1 G).1;have B:(l.set nid o)[nid]?=some o:=by rw[e0];simp[N]
 refine⟨.refl I,by simp,λid F hv=>?_,λid F j=>?_,λid e size els F hh=>?_⟩
 ·have:id≠nid:=by rintro rfl;unfold isVar at hv;rw[G]at hv;simp[AO.isVar]at hv
  refine⟨?_,bU m v this⟩;unfold isVar;rw[k id this];exact hv
 ·by_cases h:id=nid
  ·subst h;unfold isRow at j;rw[B]at j;simp[M]at j
  refine⟨?_,bU m v h⟩;unfold isRow at j⊢;rw[k id h]at j;exact j
 by_cases h:id=nid
 ·subst h;rw[B]at hh;rcases hh with hh|hh<;>(injection hh with hh;subst hh;simp[AO.isRow]at M)
 rw[k id h]at hh;exact⟨els,hh⟩
theorem aJ.alloc(h:aJ w0 I0 w I m l)(ob:Obj){nid:Nat}{o:AO}{v:Value}(ag:l[nid]?=some .dead)(ao:o.isRow=false)(hv:own v=some w.heap.size)(aq:dZ w0.heap.size (w.alloc ob) I (aQ m nid v) (l.set nid o) v o):aJ w0 I0 (w.alloc ob) I (aQ m nid v) (l.set nid o):=by
 have al:Le I m l I (aQ m nid v) (l.set nid o):=Le.new ag ao;have an:nid<l.length:=(db.1 ag).1;have ae:(l.set nid o)[nid]?=some o:=by rw[e0];simp[an]
 have Y:∀id,id≠nid->(l.set nid o)[id]?=l[id]?:=λid h=>by rw[e0];simp[hU h]
 have ah:∀id,id≠nid->alive (l.set nid o) id=true->∀b,own (m id)=some b->b<w.heap.size:=by
  intro id O aj b M;obtain⟨o',k,B⟩:=bN.1 aj;rw[Y id O]at k;exact((h.obj id o' k).lt B M).1
 refine⟨h.below.alloc h.below.size ob,⟨λb o' u N=>?_,λb ai N=>?_,λb B=>(Below.heap_alloc w ob b (h.sat.kW B)).trans (h.sat.df b B),h.sat.dK⟩,h.ext,λid o' k=>?_,λi j b U hi af F G=>?_⟩
 ·rw[tx w ob _ (h.sat.lt N)];exact h.sat.cell b o' u N
 ·have ak:=h.sat.mp b ai N;exact dR.to (Below.heap_alloc w ob b (h.sat.nM N)) ak
 ·by_cases O:id=nid
  ·subst O;rw[ae]at k;injection k with k;subst k;rw[dH];exact aq
  rw[Y id O]at k;rw[bU m v O];by_cases B:o'=.dead
  ·subst B;trivial
  exact(h.obj id o' k).cF al (λb M=>Below.heap_alloc w ob b ((h.obj id o' k).lt B M).1) (λb _=>⟨rfl,rfl⟩) ⟨λb u ar _=>⟨Below.heap_alloc w ob b (h.sat.lt ar),rfl,rfl⟩,λq b Z M=>by
   by_cases ad:q=nid
   ·subst ad;unfold cA at Z;rw[ae]at Z;cases o<;>simp_all [AO.cA,AO.isRow]
   rw[bU m v ad]at M;unfold cA at Z;rw[Y q ad]at Z;exact .inl ⟨q,Z,M⟩⟩
 by_cases aa:i=nid
 ·subst aa;rw[dH]at F;rw[bU m v (hU U)]at G;rw[hv]at F;injection F with F;have:=ah j (hU U) af b G;omega
 by_cases ab:j=nid
 ·subst ab;rw[dH]at G;rw[bU m v U]at F;rw[hv]at G;injection G with G;have:=ah i U hi b F;omega
 rw[bU m v aa]at F;rw[bU m v ab]at G;refine h.sep i j b U ?_ ?_ F G
 ·obtain⟨o',k,B⟩:=bN.1 hi;rw[Y i aa]at k;exact bN.2 ⟨o',k,B⟩
 obtain⟨o',k,B⟩:=bN.1 af;rw[Y j ab]at k;exact bN.2 ⟨o',k,B⟩
def aJ.push(h:aJ w0 I0 w I m l):aJ w0 I0 w I m (l++[.dead])/\Le I m l I m (l++[.dead]):=by
 have G:∀id,id<l.length->(l++[AO.dead])[id]?=l[id]?:=λid B=>e1 B;have M:∀(id:Nat) o,(l++[AO.dead])[id]?=some o->o=AO.dead\/l[id]?=some o:=by
  intro id o k;rcases Nat.lt_trichotomy id l.length with hl|hl|hl
  ·rw[G id hl]at k;exact .inr k
  ·subst hl;simp at k;exact .inl k.symm
  rw[hJ (by simp;omega)]at k;cases k
 have Z:Le I m l I m (l++[.dead]):=by
  refine⟨.refl I,by simp,λid B hv=>⟨?_,rfl⟩,λid B N=>⟨?_,rfl⟩,λid e size els B Y=>⟨els,?_⟩⟩
  ·unfold isVar at hv⊢;rw[G id B];exact hv
  ·unfold isRow at N⊢;rw[G id B]at N;exact N
  rw[G id B]at Y;exact Y
 have O:∀id,alive (l++[AO.dead]) id=true->alive l id=true:=by
  intro id aa;obtain⟨o,k,U⟩:=bN.1 aa;rcases M id o k with he|he
  ·exact absurd he U
  exact bN.2 ⟨o,he,U⟩
 refine⟨⟨h.below,h.sat,h.ext,λid o k=>?_,λi j b ab hi ad=>h.sep i j b ab (O i hi) (O j ad)⟩,Z⟩;rcases M id o k with rfl|he
 ·trivial
 exact(h.obj id o he).cF Z (λ_ _=>rfl) (λ_ _=>⟨rfl,rfl⟩) (Gq.id λq F=>by
  unfold cA at F⊢;cases k:(l++[AO.dead])[q]? with
  |none=>simp[k]at F
  |some o=>
   rcases M q o k with rfl|h
   ·simp[k,AO.cA]at F
   rw[k]at F;rw[h];exact F)
end
def iB(P:Program)(t:TypeId):TD->Bool
 |.jJ=>match P.underlying t with|some (.struct _)|some (.array _ _)|none=>false|_=>true
 |.dE k=>match P.underlying t with|some (.int B)=>k == B|_=>false
 |.string=>match P.underlying t with|some .string=>true|_=>false
 |.slice e=>match P.underlying t with|some (.slice j)=>e == j|_=>false
 |.struct fs=>match P.underlying t with|some (.struct gs)=>decide (fs=gs.toList.map λf=>(f.offset,f.type))&&(!Iz fs||(gs.toList.all (λg=>g.name != "_") && !P.stoodInHeld t))|_=>false
 |.array n e=>match P.underlying t with|some (.array F j)=>n == F&&e == j|_=>false
 |.map k e=>match P.underlying t with|some (.map B j)=>k == B&&e == j|_=>false
def fZ:List Value->List D->Bool
 | [],[]=>true
 |v::vs,d::ds=>pL v d&&fZ vs ds
 |_,_=>false
def kQ:Value->Bool
 |.agg _=>true
 |_=>false
def yB(P:Program)(t:TypeId)(i:TI):Bool:=
 match P.info? t with
 |some x=>x.size == i.size&&x.bytes == i.bytes&&(match x.zero with|some z=>fZ z.cells.toList i.zero&&(kQ z == i.desc.agg)|none=>false)&&iB P t i.desc&&decide (i.zero.length=i.size)
 |none=>false
def ct(P:Program)(E:cn):Prop:=∀t i,E t=some i->yB P t i=true
def gA(P:Program)(f:FuncId)(ds:List D)(r:D):Prop:=
 ∀(w:World)(I:aD)(vs:Array Value),cZ w I->vs.size=ds.length->(∀(i:Nat) v d,vs[i]?=some v->ds[i]?=some d->Rd I v d) ->
  Calls P f vs w λe w'=>∃v J,e=.returned v/\dq w.heap.size w w'/\ff w.heap.size I J/\cZ w' J/\Rd J v r
def Enters(P:Program)(f:FuncId):Prop:=∀(j:Array Value)(w:World),(callFunc f j).run P w=.ok (.enter f j) w
def IP(P:Program)(C:yJ):Prop:=∀f ds r ob,C f ds=some (r,ob)->ob->Enters P f/\gA P f ds r
def sU(P:Program)(g:FuncId)(ts:List T)(l:List AO)(t:T)(l':List AO):Prop:=
 ∀(w0:World)(I0:aD)(w:World)(I:aD)(m:Nat->Value)(j:Array Value),aJ w0 I0 w I m l->j.size=ts.length->(∀(i:Nat) v x,j[i]?=some v->ts[i]?=some x->az I m l v x) ->
  Calls P g j w λe w'=>∃v,e=.returned v/\∃J m',Le I m l J m' l'/\aJ w0 I0 w' J m' l'/\az J m' l' v t
def IQ(P:Program)(F:Di):Prop:=∀g ts l r,F g ts l=some r->r.ob->Enters P g/\sU P g ts l r.t r.l
def jV(P:Program)(g:FuncId)(ts:List T)(l:List AO)(K:T->List AO->Prop):Prop:=
 Enters P g/\∀(w0:World)(I0:aD)(w:World)(I:aD)(m:Nat->Value)(j:Array Value)(vals:Nat->Value)(ft:Tm),aJ w0 I0 w I m l->j.size=ts.length->(∀(i:Nat) v x,j[i]?=some v->ts[i]?=some x->az I m l v x)->(∀k,az I m l (vals k) (get ft k)) ->
  Calls P g j w λe w'=>∃v,e=.returned v/\∃t l' J m',K t l'/\aJ w0 I0 w' J m' l'/\az J m' l' v t/\(∀b,I.df b->J.df b)/\∀k,az J m' l' (vals k) (get ft k)
theorem jV.mono{P:Program}{g:FuncId}{ts:List T}{l:List AO}{K j:T->List AO->Prop}(h:jV P g ts l K)(O:∀t l',K t l'->j t l'):jV P g ts l j:=
 ⟨h.1,λw0 I0 w I m k vals ft B F G M=>(h.2 w0 I0 w I m k vals ft B F G M).mono λ_ _ ⟨v,N,t,l',J,m',U,Y⟩=>⟨v,N,t,l',J,m',O t l' U,Y⟩⟩
def qT(P:Program)(k:TypeId->Option (List Lf)):Prop:=∀t ls,k t=some ls->∀(j:BinOp)(x y:Operand)(I:aD)(u v:Value)(a b:D)(w:World),Rd I u a->Rd I v b ->
 ((∃p q,a=.bool p/\b=.bool q/\ls=[.bool])\/∃xs ys,a=.agg xs/\b=.agg ys/\ls≠[.bool]/\fM ls xs=true/\fM ls ys=true)->(j=.eql\/j=.neq) ->
 ((do eqGuard j t x y u v;binOp j t u v:Sem Value)).run P w=.ok (.bool (if j=.eql then gB a b else !(gB a b))) w
structure c6(P:Program)(V:Env):Prop where
 E:ct P V.E
 C:IP P V.C
 eq:qT P V.jE
 F:IQ P V.F
 prog:V.P=P
def cr(P:Program)(r:Result Next)(Q:Value->World->Prop):Prop:=
 match r with
 |.ok (.value v) w'=>Q v w'
 |.ok .skip w'=>Q undef w'
 |.ok (.enter f args) w'=>Calls P f args w' λe j=>∃v,e=.returned v/\Q v j
 |_=>False
theorem cr.mono{P:Program}{r:Result Next}{Q Q':Value->World->Prop}(h:cr P r Q)(j:∀v w,Q v w->Q' v w):cr P r Q':=by
 unfold cr at *;split at h
 ·exact j _ _ h
 ·exact j _ _ h
 ·exact h.mono λe w ⟨v,k,hv⟩=>⟨v,k,j _ _ hv⟩
 exact h.elim
class bS where
 r:Option Nat
 cF:Nat->Prop
def dS[bS]:Fence:={Fence.wide with round:=bS.r}
def ow[bS](f:FuncId):dS.fn f:=trivial
def Kv[bS]{P:Program}{f:FuncId}{j:Array Value}{w:World}{R:Ending->World->Prop}(h:Calls P f j w R)(n:Nat):CallsIn dS n P f j w R:=by
 unfold dS;cases bS.r with
 |none=>exact(va (n:=n)).2 h
 |some l=>exact CallsIn.inRound l ((va (n:=n)).2 h)
def cr.wpIn[bS]{P:Program}{o:Oper}{a:Act}{w:World}{K:Act->World->Prop}{Q:Exit->Act->World->Prop}(k:∀c,o.op ≠ .defer c)(h:cr P ((execOp a.eval o).run P w) λv w'=>K (a.put o.dst v) w'):o.wpIn dS 0 P a w K Q:=by
 unfold Oper.wpIn;refine⟨λ_ _=>ow _,?_⟩;rw[Oper.semAt_eq _ _ _ k];generalize (execOp a.eval o).run P w=r at *;unfold cr at h;split at h
 ·exact h
 ·exact h
 ·simp only[Oper.uponIn];refine⟨λh=>by simp[dS,Fence.wide]at h,Kv (h.mono λe w hv=>?_) _⟩;obtain⟨v,j,hv⟩:=hv;subst j;exact hv
 exact h.elim
section
variable {P:Program}{E:cn}{t:TypeId}{i:TI}
def fq(h:yB P t i=true):∃x z,P.info? t=some x/\x.size=i.size/\x.bytes=i.bytes/\x.zero=some z/\fZ z.cells.toList i.zero=true/\kQ z=i.desc.agg/\iB P t i.desc=true/\i.zero.length=i.size:=by
 unfold yB at h;cases B:P.info? t with
 |none=>simp[B]at h
 |some x=>
  simp only[B,dk,r4,ea]at h;obtain⟨⟨⟨⟨F,G⟩,j⟩,M⟩,N⟩:=h;cases k:x.zero with
  |none=>simp[k]at j
  |some z=>
   simp only[k,dk,r4]at j;exact⟨x,z,rfl,F,G,k,j.1,j.2,M,N⟩
def mQ(B:ct P E)(h:E t=some i)(w:World):(sizeOf t).run P w=.ok i.size w:=by
 obtain⟨x,z,j,k,_⟩:=fq (B t i h);simp[sizeOf,typeInfo,j,k]
def yo(M:ct P E)(h:E t=some i)(w:World):∃z,(zeroValue t).run P w=.ok z w/\fZ z.cells.toList i.zero=true/\kQ z=i.desc.agg/\i.zero.length=i.size:=by
 obtain⟨x,z,j,N,O,k,B,F,U,G⟩:=fq (M t i h);exact⟨z,by simp[zeroValue,typeInfo,j,k],B,F,G⟩
def mW(k:ct P E){s b:Nat}{z:List D}{e:TypeId}(h:E t=some ⟨s,b,z,.slice e⟩):P.underlying t=some (.slice e):=by
 obtain⟨x,z',G,M,N,O,U,Y,j,_⟩:=fq (k t _ h);simp only[iB]at j;split at j
 ·rename_i F B;simp at j;subst j;exact B
 cases j
def Qw(k:ct P E){s b:Nat}{z:List D}(h:E t=some ⟨s,b,z,.string⟩):P.underlying t=some .string:=by
 obtain⟨x,z',B,F,G,M,N,O,j,_⟩:=fq (k t _ h);simp only[iB]at j;split at j
 ·assumption
 cases j
def Qv(k:ct P E){s b n:Nat}{z:List D}{e:TypeId}(h:E t=some ⟨s,b,z,.array n e⟩):P.underlying t=some (.array n e):=by
 obtain⟨x,z',G,M,N,O,U,Y,j,_⟩:=fq (k t _ h);simp only[iB]at j;split at j
 ·rename_i Z F B;simp at j;obtain⟨rfl,rfl⟩:=j;exact B
 cases j
def Ix(B:ct P E){s b:Nat}{z:List D}{fs:List (Nat×TypeId)}(h:E t=some ⟨s,b,z,.struct fs⟩):∃k,P.underlying t=some (.struct k)/\fs=k.toList.map λf=>(f.offset,f.type):=by
 obtain⟨x,z',G,M,N,O,U,Y,j,_⟩:=fq (B t _ h);simp only[iB]at j;split at j
 ·rename_i k F;simp only[dk]at j;exact⟨k,F,fv j.1⟩
 cases j
def acY(B:ct P E){s b:Nat}{z:List D}{fs:List (Nat×TypeId)}(h:E t=some ⟨s,b,z,.struct fs⟩)(M:Iz fs=true):∃k,P.underlying t=some (.struct k)/\fs=k.toList.map (λf=>(f.offset,f.type))/\(∀g∈k.toList,g.name ≠ "_")/\P.stoodInHeld t=false:=by
 obtain⟨x,z',N,O,U,Y,Z,aa,j,_⟩:=fq (B t _ h);simp only[iB]at j;split at j
 ·rename_i k F;rw[M]at j;simp only[pb,lB,dk,gj]at j;exact⟨k,F,fv j.1,λg G=>by have:=ek.1 j.2.1 g G;simpa using this,j.2.2⟩
 cases j
def Pk(F:ct P E)(h:E t=some i)(w:World):(isAgg t).run P w=.ok i.desc.agg w:=by
 obtain⟨x,z',G,M,N,O,U,Y,B,_⟩:=fq (F t _ h);unfold isAgg;cases k:P.underlying t with
 |none=>cases j:i.desc<;>simp[j,iB,k]at B
 |some d=>cases j:i.desc<;>cases d<;>simp[j,iB,k]at B<;>simp[hE k,TD.agg]
end
def IN(I:aD){v:Value}{d:D}(h:pL v d=true):Rd I v d/\d.one=true:=by
 unfold pL at h;split at h
 all_goals first| (cases h;done)|skip
 all_goals try simp only[dk,r4]at h
 ·subst h;exact⟨.bool _,rfl⟩
 ·obtain⟨rfl,rfl⟩:=h;exact⟨.int _ _,rfl⟩
 ·have:=ByteArray.ext h;subst this;exact⟨.str _,rfl⟩
 ·exact⟨.ko _ _ _ (j3 _),rfl⟩
 ·exact⟨.dV,rfl⟩
 ·exact⟨.uo,rfl⟩
 ·exact⟨.kg,rfl⟩
 exact⟨.qv,rfl⟩
theorem qQ(I:aD):∀(vs:List Value)(ds:List D),fZ vs ds=true->vs.length=ds.length/\(∀d∈ds,d.one=true)/\∀(i:Nat) v d,vs[i]?=some v->ds[i]?=some d->Rd I v d
 | [],[],_=>⟨rfl,by simp,by simp⟩
 |v::vs,d::ds,h=>by
  simp only[fZ,dk]at h;obtain⟨B,F,G⟩:=qQ I vs ds h.2;obtain⟨M,N⟩:=IN I h.1;refine⟨by simp[B],by simp[N];exact F,λi x y j k=>?_⟩;rcases i with _|i
  ·simp at j k;subst j;subst k;exact M
  simp at j k;exact G i x y j k
 | [],_::_,h=>by simp[fZ]at h
 |_::_,[],h=>by simp[fZ]at h
def eQ(l L:List AO):Prop:=∀(id:Nat),id<l.length->L[id]?=l[id]?
theorem eQ.refl(l:List AO):eQ l l:=λ_ _=>rfl
theorem eQ.get{l L:List AO}(h:eQ l L){id:Nat}{o:AO}(j:l[id]?=some o):L[id]?=some o:=(h id (db.1 j).1).trans j
def Rd.NR{I:aD}{v:Value}{d:D}(h:Rd I v d)(hv:v.oneCell'=true):d.one=true:=by
 cases h<;>simp_all [D.one,Value.oneCell']
def CB{I:aD}{m:Nat->Value}{L:List AO}{v:Value}{t:T}{x:D}(h:az I m L v t)(j:iw t=some x):Rd I v x:=by
 cases h<;>simp[iw]at j
 ·subst j;assumption
 subst j;exact .ko _ _ _ (j3 _)
def OU{I:aD}{m:Nat->Value}{L:List AO}:∀(vs:List Value)(ts:List T)(ds:List D),ts.mapM iw=some ds->vs.length=ts.length->(∀(i:Nat) v t,vs[i]?=some v->ts[i]?=some t->az I m L v t) ->
  vs.length=ds.length/\∀(i:Nat) v d,vs[i]?=some v->ds[i]?=some d->Rd I v d
 | [],[],ds,h,_,_=>by simp at h;subst h;simp
 |v::vs,t::ts,ds,h,hl,B=>by
  simp only[l2,Option.bind_eq_bind,k6,Option.pure_def,c4]at h;obtain⟨x,M,xs,N,rfl⟩:=h;obtain⟨F,G⟩:=OU vs ts xs N (by simpa using hl) (λi v t hv ht=>B (i+1) v t (by simpa using hv) (by simpa using ht));refine⟨by simp[F],λi u d k j=>?_⟩;rcases i with _|i
  ·simp at k j;subst k;subst j;exact CB (B 0 v t rfl rfl) M
  simp at k j;exact G i u d k j
 | [],_::_,_,_,hl,_=>by simp at hl
 |_::_,[],_,_,hl,_=>by simp at hl
def CS{P:Program}{E:cn}{t:TypeId}{i:TI}(B:ct P E)(h:E t=some i)(F:i.desc.agg=false):i.size=1:=by
 obtain⟨x,z,G,M,N,O,j,k,U,Y⟩:=fq (B t i h);rw[F]at k;have Z:z.cells.toList.length=1:=by cases z<;>simp_all [kQ,Value.cells]
 have:=(qQ (I:=⟨λ_ _=>none,λ_=>none,λ_=>False⟩) _ _ j).1;omega
def Pm{P:Program}{E:cn}{t:TypeId}{i:TI}(k:ct P E)(h:E t=some i)(w:World)(b o:Nat)(cs:List Value)(hl:cs.length=i.size)(G:w.rangeAt b o cs) :
  (Instr.loadAt t (.pointer (some ⟨b,o,none⟩))).run P w=.ok (if i.desc.agg then .agg cs.toArray else cs.headD undef) w:=by
 have F:=Pk k h;have N:=mQ k h;cases B:i.desc.agg with
 |true=>
  have U:(loadCells ⟨b,o,none⟩ cs.length).run P w=.ok cs.toArray w:=
   run_loadCells_list (P:=P) w ⟨b,o,none⟩ cs (λj v hv=>by rw[qc];exact G j v hv)
  simp only[Instr.loadAt,Instr.sureAddr,e8,Sem.run_pure,Result.andThen_ok,loadVar,F,B,N,<-hl,U,hK]
 |false=>
  have M:=CS k h B;rw[M]at hl
  match cs,hl with
  | [c],_=>
   have O:w.cell? ⟨b,o,none⟩=some c:=by simpa using G 0 c rfl
   simp[Instr.loadAt,Instr.sureAddr,e8,Result.andThen_ok,loadVar,F,B,O,List.headD]
def aaT{w:World}{b off n:Nat}{vs:Array Value}{ty:TypeId}{k:Nat×Nat}(h:w.heap[b]?=some (.cells vs ty k)):w.rangeAt b off ((vs.toList.drop off).take n):=by
 intro j v hv;rw[hQ]at hv;split at hv
 ·rw[kd]at hv;simp only[World.cell?,h];simpa using hv
 cases hv
def KM:∀(ts:List T)(ds:List D),ts.mapM fz=some ds->ts.mapM iw=some ds
 | [],ds,h=>h
 |t::ts,ds,h=>by
  simp only[l2,Option.bind_eq_bind,k6,Option.pure_def,c4]at h⊢;obtain⟨x,j,xs,k,rfl⟩:=h;refine⟨x,?_,xs,KM ts xs k,rfl⟩;cases t<;>simp[fz]at j
  subst j;rfl
theorem No{I:aD}{m:Nat->Value}{L:List AO}{i:TI}{vs:List Value}{ts:List T}(hl:vs.length=ts.length)(Z:vs.length=i.size)(N:i.desc.agg=false->i.size=1)(k:∀(j:Nat) v t,vs[j]?=some v->ts[j]?=some t->az I m L v t/\v.oneCell'=true):az I m L (if i.desc.agg then .agg vs.toArray else vs.headD undef) (iF i.desc.agg ts):=by
 cases O:i.desc.agg with
 |true=>
  simp only[hK,iF];cases U:ts.mapM fz with
  |none=>
   refine .agg _ _ (by simpa using hl) (λj v hv=>?_) (λj v t hv ht=>(k j v t (by simpa using hv) ht).1);have G:vs[j]?=some v:=by simpa using hv
   have F:=(db.1 G).1;exact(k j v _ G (c5 (by omega))).2
  |some ds=>
   obtain⟨Y,M⟩:=OU vs ts ds (KM ts ds U) hl (λj v t hv ht=>(k j v t hv ht).1);refine .d _ _ (.agg _ _ (by simpa using Y) (λd B=>?_) (λj v d hv B=>M j v d (by simpa using hv) B));obtain⟨j,F,rfl⟩:=hF.1 B;have hv:vs[j]?=some (vs[j]'(by omega)):=c5 (by omega);have ht:ts[j]?=some (ts[j]'(by omega)):=c5 (by omega);exact(M j _ _ hv (c5 F)).NR (k j _ _ hv ht).2
 |false=>
  have:=N O
  match vs,ts,hl,(by omega:vs.length=1)with
  | [v],[t],_,_=>simpa [iF]using (k 0 v t rfl rfl).1
def flat_get{size:Nat}:∀(els:List D),(∀d∈els,d.cells.length=size)->∀(k j:Nat)(d:D),els[k]?=some d->j<size->(flat els)[k*size+j]?=d.cells[j]?
 | [],_,k,j,d,h,_=>by simp at h
 |e::els,F,k,j,d,h,M=>by
  have B:e.cells.length=size:=F e (by simp);simp only[flat,hL];rcases k with _|k
  ·simp at h;subst h;rw[e1 (by omega)];simp
  simp at h;rw[hI (by rw[B,p5];omega)];have:=flat_get els (λd G=>F d (by simp[G])) k j d h M;rw[B];rw[show(k+1)*size+j-size=k*size+j by rw[p5];omega];exact this
def iC{size:Nat}:∀(els:List D),(∀d∈els,d.cells.length=size)->(flat els).length=els.length*size
 | [],_=>by simp[flat]
 |e::els,j=>by
  have:=iC els (λd k=>j d (by simp[k]));simp only[flat,hL,dT,List.length_cons]at *;rw[j e (by simp),this,p5];omega
theorem FG{P:Program}{E:cn}{ty:TypeId}{i:TI}(aa:ct P E)(h:E ty=some i){w:World}{I:aD}{m:Nat->Value}{L:List AO}{b o size k off:Nat}{els:List D}{val:Nat->Value}(ah:∀d∈els,d.cells.length=size/\∀x∈d.cells,x.one=true)(ao:∀j,j<els.length*size->w.cell? ⟨b,o+j,none⟩=some (val j))(ax:∀(j:Nat) x,(flat els)[j]?=some x->Rd I (val j) x)(G:(je i size els k off).ob) :
  (je i size els k off).bE=.none/\∃u,(Instr.loadAt ty (.pointer (some ⟨b,o+k*size+off,none⟩))).run P w=.ok u w/\az I m L u (je i size els k off).t:=by
 have ai:∀d∈els,d.cells.length=size:=λd M=>(ah d M).1;have Z:k<els.length:=by unfold je at G;split at G<;>exact G.1
 have ae:els[k]?=some els[k]:=c5 Z;have ad:eF els k=els[k]:=by simp[eF,ae]
 have aB:off+i.size<=size:=by
  unfold je at G;split at G
  ·rename_i N;omega
  exact G.2
 have af:els[k]∈els:=ie Z;have aq:els[k].cells.length=size:=ai _ af;have an:∀j,j<size->k*size+j<els.length*size:=λj B=>by
  have:(k+1)*size<=els.length*size:=la _ Z;rw[p5]at this;omega
 have ay:w.rangeAt b (o+k*size+off) ((List.range i.size).map λj=>val (k*size+(off+j))):=by
  intro j v hv;simp only[e3]at hv;by_cases B:j<i.size
  ·simp[B]at hv;have:=ao (k*size+(off+j)) (an _ (by omega));rw[show o+k*size+off+j=o+(k*size+(off+j)) by omega,this,hv]
  simp[B]at hv
 have ar:=Pm aa h w b (o+k*size+off) _ (by simp) ay;have ag:∀j,j<i.size->∀x,els[k].cells[off+j]?=some x->Rd I (val (k*size+(off+j))) x:=λj B x F=>
  ax _ x ((flat_get els ai k (off+j) els[k] ae (by omega)).trans F)
 have aw:∀x∈els[k].cells,x.one=true:=(ah _ af).2;refine⟨by unfold je;split<;>rfl,_,ar,?_⟩;have ab:∀ds:List D,ds=(els[k].cells.drop off).take i.size->az I m L (if i.desc.agg then .agg ((List.range i.size).map λj=>val (k*size+(off+j))).toArray else((List.range i.size).map λj=>val (k*size+(off+j))).headD undef) (.d (eK i.desc.agg ds)):=by
  intro ds Y;have U:ds.length=i.size:=by rw[Y,fb,q3,aq];omega
  have O:∀(j:Nat) x,ds[j]?=some x->j<i.size/\els[k].cells[off+j]?=some x:=by
   intro j x F;have B:j<i.size:=by rw[<-U];exact(db.1 F).1
   rw[Y,hQ,if_pos B,kd]at F;exact⟨B,F⟩
  cases ak:i.desc.agg with
  |true=>
   simp only[hK,eK];refine .d _ _ (.agg _ _ (by simp[U]) (λd M=>?_) (λj v d hv M=>?_))
   ·rw[Y]at M;exact aw d (sa (n4 M))
   obtain⟨B,F⟩:=O j d M;have:v=val (k*size+(off+j)):=by
    simp[B]at hv;exact hv.symm
   rw[this];exact ag j B d F
  |false=>
   have aj:=CS aa h ak;rw[aj]at U⊢
   match ds,U,O with
   | [x],_,O=>
    obtain⟨_,F⟩:=O 0 x rfl;simp only[eK,List.headD,hR,h9];exact .d _ _ (by simpa using ag 0 (by omega) x F)
 by_cases N:size=i.size/\off=0
 ·simp only[je,if_pos N]at G⊢;have aC:size=i.size:=N.1;have av:off=0:=N.2;have al:ua (eF els k)=i.desc.agg:=G.2;have:=ab els[k].cells (by subst av;rw[q4,j5 (by omega)]);rw[ad]at al⊢;have au:eK i.desc.agg els[k].cells=els[k]:=by
   cases aA:els[k]<;>simp_all [ua,eK,D.cells]
  rw[au]at this;exact this
 simp only[je,if_neg N];rw[ad];exact ab _ rfl
section
variable {P:Program}{V:Env}{w0 w:World}{I0 I:aD}{m:Nat->Value}{l L:List AO}
def Pa{w:World}{B:Nat}{e:TypeId}{size n b c:Nat}{xs:List Value}(h:w.ownsRow B e size (.slice (some ⟨b,0,none⟩) n c) n xs):∀(j:Nat) x,xs[j]?=some x->w.cell? ⟨b,j,none⟩=some x:=by
 intro j x k;rcases h.2 with ⟨hv,_⟩| ⟨g,M,cur,hv,Y,G,N,O,U,F⟩
 ·cases hv
 injection hv with hv _ _;injection hv with hv;injection hv with hv;subst hv;rw[<-F,hQ]at k;split at k
 ·simpa [World.cell?,G]using k
 cases k
def Pb{B:Nat}{v:Value}{e:TypeId}{size b n c:Nat}{els:List D}{xs:List Value}(k:w.ownsRow B e size v els.length xs)(hv:v=.slice (some ⟨b,0,none⟩) n c):els.length=n/\∀(j:Nat) x,xs[j]?=some x->w.cell? ⟨b,j,none⟩=some x:=by
 have F:els.length=n:=by
  rcases k.2 with ⟨q,_⟩| ⟨g,cap,cur,q,_⟩<;>rw[q]at hv
  ·cases hv
  injection hv
 subst F;subst hv;exact⟨rfl,Pa k⟩
theorem MY(U:ct P V.E)(ad:aJ w0 I0 w I m L)(Y:eQ l L){ty:TypeId}{v:Value}{x:T}(N:az I m L v x)(B:(fD V.E ty l x).ob) :
  (fD V.E ty l x).bE=.none/\∃u,(Instr.loadAt ty v).run P w=.ok u w/\az I m L u (fD V.E ty l x).t:=by
 cases N with
 |ptr id b off hv ar=>
  simp only[fD]at B⊢;cases hi:V.E ty with
  |none=>simp[hi,R.bad]at B
  |some i=>
   cases F:l[id]? with
   |none=>simp[hi,F,R.bad]at B
   |some o=>
    cases o with
    |var t' cs=>
     simp only[hi,F]at B⊢;split at B
     ·rename_i aq;rw[if_pos aq];obtain⟨aw,vs,G,ak,O,al,ae,ax⟩:=ad.obj id _ (Y.get F);rw[ar]at G;injection G with G;injection G with G;injection G with G;subst G;have an:((vs.toList.drop off).take i.size).length=i.size:=by simp;omega
      refine⟨rfl,_,Pm U hi w b off _ an (aaT O),?_⟩;refine No (by simp;omega) an (CS U hi) (λj v t hv ht=>?_);rw[hQ]at hv ht;split at hv
      ·rename_i M;rw[if_pos M]at ht;rw[kd]at hv ht;exact ae (off+j) v t (by simpa using hv) ht
      cases hv
     simp[R.bad]at B
    |_=>simp[hi,F,R.bad]at B
 |bu b o size els k off val ak O al ae=>
  simp only[fD]at B⊢;cases hi:V.E ty with
  |none=>simp[hi,R.bad]at B
  |some i=>
   simp only[hi]at B⊢;exact FG U hi O (λj M=>ad.sat.cell _ _ _ (al j M)) ae B
 |bx a id k off ak O=>
  simp only[fD]at B⊢;cases hi:V.E ty with
  |none=>simp[hi,R.bad]at B
  |some i=>
   cases F:l[id]? with
   |none=>simp[hi,F,R.bad]at B
   |some o=>
    cases o with
    |row e size els=>
     simp only[hi,F]at B⊢;obtain⟨b,n,c,aj,rfl⟩:=O e size els (.inl (Y.get F));obtain⟨xs,aa,ab,ai,av⟩:=ad.obj id _ (Y.get F);obtain⟨au,af⟩:=Pb aa aj;have ah:xs.length=els.length*size:=aa.1;have:=FG (P:=P) (I:=I) (m:=m) (L:=L) (w:=w) (b:=b) (o:=0) (k:=k) (off:=off) (val:=λj=>(xs[j]?).getD undef) U hi ab
      (
       λj M=>by rw[hT];exact af j _ (by simp[ah,M])) (λj x N=>by
       have ao:j<els.length*size:=by rw[<-iC els (λd ag=>(ab d ag).1)];exact(db.1 N).1
       have Z:xs[j]?=some (xs[j]'(by omega)):=c5 (by omega);rw[Z];exact ai j _ x Z N) B
     simpa using this
    |bn e size els=>
     simp only[hi,F]at B⊢;obtain⟨b,n,c,aj,rfl⟩:=O e size els (.inr (Y.get F));obtain⟨xs,aa,ab,ai,av⟩:=ad.obj id _ (Y.get F);obtain⟨au,af⟩:=Pb aa aj;have ah:xs.length=els.length*size:=aa.1;have:=FG (P:=P) (I:=I) (m:=m) (L:=L) (w:=w) (b:=b) (o:=0) (k:=k) (off:=off) (val:=λj=>(xs[j]?).getD undef) U hi ab
      (
       λj M=>by rw[hT];exact af j _ (by simp[ah,M])) (λj x N=>by
       have ao:j<els.length*size:=by rw[<-iC els (λd ag=>(ab d ag).1)];exact(db.1 N).1
       have Z:xs[j]?=some (xs[j]'(by omega)):=c5 (by omega);rw[Z];exact ai j _ x Z N) B
     simpa using this
    |_=>simp[hi,F,R.bad]at B
 |_=>simp[fD,R.bad]at B
def lY{l:List AO}{id:Nat}{o o':AO}(h:l[id]?=some o)(hv:o.isVar=o'.isVar)(k:Nat):isVar (l.set id o') k=isVar l k:=by
 unfold isVar;by_cases j:k=id
 ·subst j;rw[e0,if_pos rfl,if_pos (db.1 h).1,h];simp[hv]
 rw[e0,if_neg (hU j)]
def lW{l:List AO}{id:Nat}{o o':AO}(h:l[id]?=some o)(hv:o.isRow=o'.isRow)(k:Nat):isRow (l.set id o') k=isRow l k:=by
 unfold isRow;by_cases j:k=id
 ·subst j;rw[e0,if_pos rfl,if_pos (db.1 h).1,h];simp[hv]
 rw[e0,if_neg (hU j)]
def Le.PD{id:Nat}{ty G:TypeId}{cs F:List T}(h:l[id]?=some (.var ty cs)):Le I m l I m (l.set id (.var G F)):=by
 refine⟨.refl I,by simp,λk _ B=>⟨(lY (o':=.var G F) h rfl k).trans B,rfl⟩,λk _ B=>⟨(lW (o':=.var G F) h rfl k).symm.trans B,rfl⟩,λk e size els B j=>⟨els,?_⟩⟩;by_cases M:k=id
 ·subst M;rw[e0,if_pos rfl,if_pos (db.1 h).1]at j;simp at j
 rw[e0,if_neg (hU M)]at j;exact j
theorem Ib(aE:ct P V.E)(N:aJ w0 I0 w I m l){id off b:Nat}{ty t':TypeId}{cs:List T}{x:T}{v:Value}(Z:l[id]?=some (.var t' cs))(al:m id=.pointer (some ⟨b,0,none⟩))(aT:az I m l v x)(ae:(bB x).all T.gq=true)(aw:(bB x).length=bJ V.E ty)(aZ:0<(bB x).length)(aX:off+(bB x).length<=cs.length) :
  ∃w',(Instr.storeAt ty (.pointer (some ⟨b,off,none⟩)) v).run P w=.ok () w'/\aJ w0 I0 w' I m (l.set id (.var t' (setAt cs off (bB x)))):=by
 obtain⟨M,vs,aa,aU,ag,aA,aB,ah⟩:=N.obj id _ Z;rw[al]at aa;injection aa with aa;injection aa with aa;injection aa with aa;subst aa;have aK:v.cells.toList.length=(bB x).length/\(∀u∈v.cells.toList,u.oneCell'=true)/\∀(i:Nat) u t,v.cells.toList[i]?=some u->(bB x)[i]?=some t->az I m l u t:=by
  have one:∀(u:Value),u.oneCell'=true->u.cells.toList=[u]:=λu B=>by cases u<;>simp_all [Value.oneCell',Value.cells]
  have O:∀(t:T),bB t=[t]->az I m l v t->v.oneCell'=true->v.cells.toList.length=(bB t).length/\(∀u∈v.cells.toList,u.oneCell'=true)/\∀(i:Nat) u s,v.cells.toList[i]?=some u->(bB t)[i]?=some s->az I m l u s:=by
   intro t ht aQ hv;rw[one v hv,ht];refine⟨rfl,by simpa using hv,λi u s B ay=>?_⟩;rcases i with _|i
   ·simp at B ay;subst B;subst ay;exact aQ
   simp at B
  cases aT with
  |undef=>simp[bB,T.gq]at ae
  |d _ d ad=>
   by_cases ht:∃ds,d=.aL ds
   ·obtain⟨ds,rfl⟩:=ht;simp[bB,D.cells,T.gq,D.one]at ae
   obtain⟨F,G,Y⟩:=ad.cells (λds e=>ht ⟨ds,e⟩);refine⟨by simp[bB,F],λu B=>?_,λi u t B af=>?_⟩
   ·obtain⟨i,hi,rfl⟩:=hF.1 B;have ar:i<d.cells.length:=by simp at hi;omega
    exact(Y i _ d.cells[i] (by rw[<-j4];exact c5 hi) (c5 ar)).one (G _ (ie ar))
   simp only[bB,e3]at af;cases aj:d.cells[i]? with
   |none=>simp[aj]at af
   |some y=>
    simp[aj]at af;subst af;exact .d _ _ (Y i u y (by simpa using B) aj)
  |bq s=>exact O _ rfl (.bq s) rfl
  |ptr id b off F G=>exact O _ rfl (.ptr id b off F G) rfl
  |bu b o size els k off val F G Y ao=>exact O _ rfl (.bu b o size els k off val F G Y ao) rfl
  |aL=>simp[bB,T.gq]at ae
  |cond=>simp[bB,T.gq]at ae
  |row A n c id F G=>exact O _ rfl (.row A n c id F G) rfl
  |bI A n c id x F G Y=>exact O _ rfl (.bI A n c id x F G Y) rfl
  |bx a id k off F G=>exact O _ rfl (.bx a id k off F G) rfl
  |map r id F G=>exact O _ rfl (.map r id F G) rfl
  |aH g vs ts F G=>exact O _ rfl (.aH g vs ts F G) rfl
  |bj id b F G=>exact O _ rfl (.bj id b F G) rfl
  |cC id b n c F G Y ao=>exact O _ rfl (.cC id b n c F G Y ao) rfl
  |sub A n c id lo hi F G=>exact O _ rfl (.sub A n c id lo hi F G) rfl
  |agg vs ts F G Y=>
   refine⟨by simp[bB,Value.cells,F],λu B=>?_,λi u t B ht=>Y i u t (by simpa [Value.cells]using B) (by simpa [bB]using ht)⟩;obtain⟨i,hi,rfl⟩:=hF.1 B;simp only[Value.cells]at hi⊢;exact G i _ (by rw[<-j4];exact c5 hi)
 obtain⟨ai,aq,aC⟩:=aK;have aR:(sizeOf ty).run P w=.ok v.cells.size w:=by
  cases hi:V.E ty with
  |none=>simp only[bJ,hi,Option.map_none,Option.getD_none]at aw;omega
  |some i=>
   rw[mQ aE hi w];simp only[bJ,hi,Option.map_some,Option.getD_some]at aw;rw[Array.length_toList]at ai;congr 1;omega
 have aS:=v8 P b off t' v.cells.toList 0 vs w ag (by rw[aA];omega) aq;refine⟨_,by simp only[Instr.storeAt,Instr.sureAddr,e8,Sem.run_pure,Result.andThen_ok,storeVar,aR,ne_eq,ih,h9,aS];rfl,?_⟩;simp only[Nat.add_zero];generalize ax:(vs.toList.take off++v.cells.toList++vs.toList.drop (off+v.cells.toList.length)).toArray=new;have aY:b<w.heap.size:=(e6.1 ag).1;have aN:(w.setRow b new).heap[b]?=some (.cells new t' (0,0)):=K1 w b vs new t' (0,0) ag;have av:Le I m l I m (l.set id (.var t' (setAt cs off (bB x)))):=Le.PD Z;have aO:id<l.length:=(db.1 Z).1;refine⟨N.below.trans ⟨rfl,rfl,rfl,by simp,λk aW=>o5 w b _ new (by omega),λ_=>ec _⟩,⟨λM o u ab=>?_,λM aD ab=>?_,λM ad=>(o5 w b _ new (λe=>by subst e;exact N.sat.l5 ag (by simp) ad)).trans (N.sat.df M ad),N.sat.dK⟩,N.ext,λj o U=>?_,λi j M aP hi U aG aI=>?_⟩
 ·have an:M≠b:=by rintro rfl;rw[ah.1]at ab;cases ab
  have:=N.sat.cell M o u ab;exact(ma (w:=w) (a:=⟨M,o,none⟩) (o5 w b _ new an)).trans this
 ·have an:M≠b:=by rintro rfl;rw[ah.2]at ab;cases ab
  have aM:=N.sat.mp M aD ab;exact dR.to (o5 w b _ new an) aM
 ·by_cases ak:j=id
  ·subst ak;rw[e0,if_pos rfl,if_pos aO]at U;injection U with U;subst U;refine⟨b,new,al,aU,aN,?_,λi u t B ht=>?_,ah⟩
   ·subst ax;simp[setAt,aA,dT,fb,q3]at ai⊢;omega
   subst ax;have key:∀(i:Nat),(vs.toList.take off++v.cells.toList++vs.toList.drop (off+v.cells.toList.length))[i]?=some u->(setAt cs off (bB x))[i]?=some t->az I m l u t/\u.oneCell'=true:=by
    intro i B ht;have l1:(vs.toList.take off).length=off:=by simp;omega
    have aV:(cs.take off).length=off:=by simp;omega
    rw[h7,hC]at B;rw[setAt,h7,hC]at ht;rw[l1]at B;rw[aV]at ht;by_cases hi:i<off
    ·rw[if_pos hi]at B ht;rw[hQ,if_pos hi]at B ht;exact aB i u t (by simpa using B) ht
    rw[if_neg hi]at B ht;rw[hC]at B ht;rw[ai]at B;by_cases au:i-off<(bB x).length
    ·rw[if_pos au]at B ht;refine⟨aC _ u t B ht,aq u ?_⟩;exact dd B
    rw[if_neg au]at B ht;rw[kd]at B ht;exact aB _ u t (by simpa using B) ht
   have:=key i (by simpa using B) ht;exact⟨this.1.mono av,this.2⟩
  rw[e0,if_neg (hU ak)]at U;by_cases ad:o=.dead
  ·subst ad;trivial
  refine(N.obj j o U).cF av (λM aF=>o5 w b _ new ?_) (λ_ _=>⟨rfl,rfl⟩) (.set (λM u B=>o5 w b _ new (λe=>by subst e;rw[ah.1]at B;cases B)) (λh=>by cases h));rintro rfl;exact N.sep j id M ak (bN.2 ⟨o,U,ad⟩) (bN.2 ⟨_,Z,by simp⟩) aF (by rw[al];rfl)
 refine N.sep i j M aP ?_ ?_ aG aI
 ·unfold alive at hi⊢;rwa [lY (o':=.var t' (setAt cs off (bB x))) Z rfl,lW (o':=.var t' (setAt cs off (bB x))) Z rfl]at hi
 unfold alive at U⊢;rwa [lY (o':=.var t' (setAt cs off (bB x))) Z rfl,lW (o':=.var t' (setAt cs off (bB x))) Z rfl]at U
theorem aJ.Ir(h:aJ w0 I0 w I m l){id:Nat}{o o':AO}{J:aD}(B:l[id]?=some o)(hv:o.isVar=o'.isVar)(aa:o.isRow=o'.isRow)(aj:o'.isRow=true)(au:∀e size els,(o'=.row e size els\/o'=.bn e size els)->∃els',(o=.row e size els'\/o=.bn e size els'))(Z:I.le J)(U:∀b,own (m id)≠some b->J.cell b=I.cell b/\J.mp b=I.mp b)(av:cZ w J)(ar:dZ w0.heap.size w J m (l.set id o') (m id) o'):aJ w0 I0 w J m (l.set id o')/\Le I m l J m (l.set id o'):=by
 have ah:id<l.length:=(db.1 B).1;have af:Le I m l J m (l.set id o'):=by
  refine⟨Z,by simp,λk _ Y=>⟨(lY B hv k).trans Y,rfl⟩,λk _ Y=>⟨(lW B aa k).symm.trans Y,rfl⟩,λk e size els Y hh=>?_⟩;by_cases ai:k=id
  ·subst ai;rw[e0,if_pos rfl,if_pos ah]at hh;have an:o'=.row e size els\/o'=.bn e size els:=by rcases hh with hh|hh<;>(injection hh with hh;simp[hh])
   obtain⟨els',hc⟩:=au e size els an;exact⟨els',by rcases hc with hc|hc<;>rw[B,hc]<;>simp⟩
  rw[e0,if_neg (hU ai)]at hh;exact⟨els,hh⟩
 have O:o ≠ .dead:=by rintro rfl;rw[<-aa]at aj;simp[AO.isRow]at aj
 refine⟨⟨h.below,av,⟨λ_ _ _ x=>Z.cell _ _ _ (h.ext.lc _ _ _ x),λ_ _ x=>Z.mp _ _ (h.ext.lm _ _ x),λb F x=>Z.df b (h.ext.ld b F x),λb F=>?_,λb F=>?_⟩,λj ae G=>?_,λi j b ao hi G=>?_⟩,af⟩
 ·by_cases N:own (m id)=some b
  ·have:=((h.obj id o B).lt O N).2;omega
  exact(U b N).1.trans (h.ext.cell b F)
 ·by_cases N:own (m id)=some b
  ·have:=((h.obj id o B).lt O N).2;omega
  exact(U b N).2.trans (h.ext.mp b F)
 ·by_cases ab:j=id
  ·subst ab;rw[e0,if_pos rfl,if_pos ah]at G;injection G with G;subst G;exact ar
  rw[e0,if_neg (hU ab)]at G;by_cases ag:ae=.dead
  ·subst ag;trivial
  exact(h.obj j ae G).cF af (λ_ _=>rfl) (λb F=>U b (λal=>h.sep j id b ab (bN.2 ⟨ae,G,ag⟩) (bN.2 ⟨o,B,O⟩) F al)) ⟨λb u ak ad=>⟨rfl,U b λF=>(((h.obj id o B).IA O F).elim (λM=>ad id (by unfold cA;rw[B];exact M) F) λaq=>by rw[aq]at ak;cases ak)⟩,λq b ad F=>(Ab ad).elim (λM=>.inl ⟨q,M,F⟩) λM=>by
   obtain⟨rfl,_⟩:=M;exact((h.obj q o B).IA O F).elim (λM=>.inl ⟨q,by unfold cA;rw[B];exact M,F⟩) .inr⟩
 refine h.sep i j b ao ?_ ?_
 ·unfold alive at hi⊢;rwa [lY (o':=o') B hv,lW (o':=o') B aa]at hi
 unfold alive at G⊢;rwa [lY (o':=o') B hv,lW (o':=o') B aa]at G
def aD.dz(I:aD)(b:Nat)(xs:List Value):aD:=⟨λj o=>if j=b then(match xs[o]? with|some x=>some x|none=>I.cell b o)else I.cell j o,I.mp,I.df⟩
def aD.sP(I:aD)(b:Nat)(k:ME):aD:=⟨I.cell,λj=>if j=b then some k else I.mp j,I.df⟩
def vk{J:aD}{v:Value}{B:Nat}{e:TypeId}{size:Nat}{els:List D}{xs:List Value}(F:w.ownsRow B e size v els.length xs)(G:∀d∈els,d.cells.length=size/\∀x∈d.cells,x.one=true)(O:∀(j:Nat) x y,xs[j]?=some x->(flat els)[j]?=some y->Rd J x y)(U:∀b,own v=some b->∀(j:Nat) x,xs[j]?=some x->J.cell b j=some x):Rd J v (.slice size els):=by
 have ah:xs.length=els.length*size:=F.1;rcases F.2 with ⟨rfl,Z⟩| ⟨g,N,cur,rfl,ad,ae,aa,ab,ai,aj⟩
 ·have:els=[]:=j0 Z;subst this;exact .ko _ _ _ (j3 _)
 refine .slice g 0 els.length N size els (λj=>(xs[j]?).getD undef) rfl aa ab G (λj af=>?_) (λj x M=>?_)
 ·have k:xs[j]?=some (xs[j]'(by omega)):=c5 (by omega);rw[hT,k];exact U g rfl j _ k
 have ag:j<els.length*size:=by rw[<-iC els (λd Y=>(G d Y).1)];exact(db.1 M).1
 have k:xs[j]?=some (xs[j]'(by omega)):=c5 (by omega);rw[k];exact O j _ x k M
def Qc(M:aJ w0 I0 w I m l){v:Value}{t:T}{x:D}{l':List AO}(ht:az I m l v t)(k:cO l t=some (x,l')):∃J,Le I m l J m l'/\aJ w0 I0 w J m l'/\Rd J v x/\l'.length=l.length:=by
 cases ht with
 |d v y aj=>simp[cO]at k;obtain⟨rfl,rfl⟩:=k;exact⟨I,.refl ..,M,aj,rfl⟩
 |bq s=>simp[cO]at k;obtain⟨rfl,rfl⟩:=k;exact⟨I,.refl ..,M,.ko _ _ _ (j3 _),rfl⟩
 |bI A n c id x aE ae aH=>simp[cO]at k;obtain⟨rfl,rfl⟩:=k;exact⟨I,.refl ..,M,aH,rfl⟩
 |row A n c id aE ae=>
  simp only[cO]at k;cases N:l[id]? with
  |none=>simp[N]at k
  |some o=>
   cases o with
   |bn e s els=>
    simp only[N,c4,et]at k;obtain⟨rfl,rfl⟩:=k;have aa:=ae (by simp[isRow,N,AO.isRow]);obtain⟨xs,U,af,ag,an⟩:=M.obj id _ N;rw[aa]at U an;exact⟨I,.refl ..,M,vk U af ag (λb ai=>(an b ai).2.1),rfl⟩
   |row e s els=>
    simp only[N,c4,et]at k;obtain⟨rfl,rfl⟩:=k;have aa:=ae (by simp[isRow,N,AO.isRow]);obtain⟨xs,U,af,ag,an⟩:=M.obj id _ N;rcases O:own (m id)with _|b
    ·
     have ax:∀b,own (m id)≠some b:=λb h=>by rw[O]at h;cases h
     obtain⟨ak,al⟩:=M.Ir (o':=.bn e s els) (J:=I) N rfl rfl rfl (λaC s' els' h=>by rcases h with h|h<;>cases h;exact⟨els,.inl rfl⟩) (.refl I) (λ_ _=>⟨rfl,rfl⟩) M.sat ⟨xs,U,af,ag,λb ai=>absurd ai (ax b)⟩;rw[aa]at U ax;exact⟨I,al,ak,vk U af ag (λb ai=>absurd ai (ax b)),by simp⟩
    obtain⟨n1,aN⟩:=an b O;let J:=I.dz b xs;have aF:∀(j:Nat) x,xs[j]?=some x->J.cell b j=some x:=λj x ab=>by simp[J,aD.dz,ab]
    have Y:I.le J:=⟨λG o u F=>by
     by_cases B:G=b
     ·subst B;rw[n1 o]at F;cases F
     simp[J,aD.dz,B,F],λ_ _ h=>h,λ_ h=>h⟩
    have aL:∀G,some b≠some G->J.cell G=I.cell G/\J.mp G=I.mp G:=λG B=>⟨by funext o;simp[J,aD.dz,show G≠b from λe=>B (by rw[e])],rfl⟩;have aI:∀(j:Nat) x,xs[j]?=some x->w.cell? ⟨b,j,none⟩=some x:=by
     rw[aa]at U O;cases A with
     |none=>simp[own]at O
     |some a=>
      obtain⟨q,_⟩:∃aw,(Value.slice (some a) n c)=.slice (some ⟨b,0,none⟩) els.length aw/\True:=by
       rcases U.2 with ⟨q,_⟩| ⟨g,aw,cur,q,_⟩
       ·cases q
       rw[q]at O;simp[own]at O;subst O;exact⟨aw,q,trivial⟩
      rename_i aM;rw[aM.1]at U;exact Pa U
    have ay:cZ w J:=⟨λG o u F=>by
     by_cases B:G=b
     ·subst B;simp only[J,aD.dz,hK]at F;cases ab:xs[o]? with
      |none=>simp only[ab]at F;rw[n1 o]at F;cases F
      |some x=>simp only[ab]at F;injection F with F;subst F;exact aI o x ab
     simp only[J,aD.dz,if_neg B]at F;exact M.sat.cell G o u F,M.sat.mp,M.sat.df,λg d h=>(M.sat.dK g d h).mono Y⟩
    obtain⟨ak,al⟩:=M.Ir (o':=.bn e s els) (J:=J) N rfl rfl rfl (λaC s' els' h=>by rcases h with h|h<;>cases h;exact⟨els,.inl rfl⟩) Y (λG B=>aL G (λe=>B (O.trans e))) ay
     ⟨xs,U,af,λj x y ab aj=>(ag j x y ab aj).mono Y,λG B=>by
      rw[O]at B;injection B with B;subst B;exact⟨aN,aF,λj aK=>by simp only[J,aD.dz,hK,hJ aK];exact n1 j⟩⟩
    rw[aa]at U O;exact⟨J,al,ak,vk U af (λj x y ab aj=>(ag j x y ab aj).mono Y) (λG B=>by rw[O]at B;injection B with B;subst B;exact aF),by simp⟩
   |_=>simp[N]at k
 |map r id aE ae=>
  simp only[cO]at k;cases N:l[id]? with
  |none=>simp[N]at k
  |some o=>
   cases o with
   |dJ ao vs=>
    simp only[N,c4,et]at k;obtain⟨rfl,rfl⟩:=k;have aa:=ae (by simp[isRow,N,AO.isRow]);obtain⟨b,ah,Z,aG,aA,aq,ar,au,av,aB,aO⟩:=M.obj id _ N;rw[aa]at Z;injection Z with Z;subst Z;exact⟨I,.refl ..,M,.map b ah ao vs aO aq ar au av,rfl⟩
   |map ao vs=>
    simp only[N,c4,et]at k;obtain⟨rfl,rfl⟩:=k;have aa:=ae (by simp[isRow,N,AO.isRow]);obtain⟨b,ah,Z,aG,aA,aq,ar,au,av,aB⟩:=M.obj id _ N;have O:own (m id)=some b:=by rw[Z];rfl
    let J:=I.sP b ah;have Y:I.le J:=⟨λ_ _ _ h=>h,λG es' F=>by
     by_cases B:G=b
     ·subst B;rw[aB.2]at F;cases F
     simp[J,aD.sP,B,F],λ_ h=>h⟩
    have ay:cZ w J:=⟨M.sat.cell,λG es' F=>by
     by_cases B:G=b
     ·subst B;simp only[J,aD.sP,hK]at F;injection F with F;subst F;exact aA
     simp only[J,aD.sP,if_neg B]at F;exact M.sat.mp G es' F,M.sat.df,λg d h=>(M.sat.dK g d h).mono Y⟩
    obtain⟨ak,al⟩:=M.Ir (o':=.dJ ao vs) (J:=J) N rfl rfl rfl (λaC s' els' h=>by rcases h with h|h<;>cases h) Y
     (λG B=>⟨rfl,by simp[J,aD.sP,show G≠b from λe=>B (by rw[O,e])]⟩) ay
     ⟨b,ah,Z,aG,aA,aq,ar,λi e d ad k=>(au i e d ad k).mono Y,λi e d ad k=>(av i e d ad k).mono Y,aB.1,by simp[J,aD.sP]⟩
    rw[aa]at Z;injection Z with Z;subst Z;exact⟨J,al,ak,.map b ah ao vs (by simp[J,aD.sP]) aq ar (λi e d ad k=>(au i e d ad k).mono Y) (λi e d ad k=>(av i e d ad k).mono Y),by simp⟩
   |_=>simp[N]at k
 |_=>simp[cO]at k
def Je:∀(ts:List T)(l:List AO)(I:aD)(vs:List Value)(ds:List D)(l':List AO),aJ w0 I0 w I m l->vs.length=ts.length->(∀(i:Nat) v t,vs[i]?=some v->ts[i]?=some t->az I m l v t)->dm l ts=some (ds,l') ->
  ∃J,Le I m l J m l'/\aJ w0 I0 w J m l'/\vs.length=ds.length/\(∀(i:Nat) v d,vs[i]?=some v->ds[i]?=some d->Rd J v d)/\l'.length=l.length
 | [],l,I,vs,ds,l',N,hl,M,j=>by
  simp[dm]at j;obtain⟨rfl,rfl⟩:=j;have:vs=[]:=j0 (by simpa using hl);subst this;exact⟨I,.refl ..,N,rfl,by simp,rfl⟩
 |t::ts,l,I,vs,ds,l',N,hl,M,j=>by
  match vs,hl with
  |v::vs,hl=>
   simp only[dm]at j;cases F:cO l t with
   |none=>simp[F]at j
   |some p=>
    obtain⟨x,l1⟩:=p;simp only[F]at j;cases G:dm l1 ts with
    |none=>simp[G]at j
    |some q=>
     obtain⟨xs,aa⟩:=q;simp only[G,c4,et]at j;obtain⟨rfl,rfl⟩:=j;obtain⟨Y,O,ae,ag,n1⟩:=Qc N (M 0 v t rfl rfl) F;obtain⟨Z,U,af,ab,ad,ah⟩:=Je ts l1 Y vs xs aa ae (by simpa using hl) (λi v t hv ht=>(M (i+1) v t (by simpa using hv) (by simpa using ht)).mono O) G;refine⟨Z,O.trans U,af,by simp[ab],λi u d B k=>?_,by omega⟩;rcases i with _|i
     ·simp at B k;subst B;subst k;exact ag.mono U.du
     simp at B k;exact ad i u d B k
def Ip{l:List AO}{t:T}{x:D}{l':List AO}(k:kj l t=true)(h:cO l t=some (x,l')):l'=l:=by
 cases t<;>simp[kj,cO]at k h
 ·exact h.2.symm
 ·exact h.2.symm
 ·rename_i id;cases j:l[id]? with
  |none=>simp[j]at k
  |some o=>cases o<;>simp[j]at k h;exact h.2.symm
 ·rename_i id;cases j:l[id]? with
  |none=>simp[j]at k
  |some o=>cases o<;>simp[j]at k h;exact h.2.symm
 exact h.2.symm
def Jf:∀(ts:List T){l:List AO}{ds:List D}{l':List AO},ts.all (kj l)=true->dm l ts=some (ds,l')->l'=l
 | [],l,ds,l',_,h=>by simp[dm]at h;exact h.2.symm
 |t::ts,l,ds,l',B,h=>by
  simp only[List.all_cons,dk]at B;simp only[dm]at h;cases j:cO l t with
  |none=>simp[j]at h
  |some p=>
   obtain⟨x,l1⟩:=p;simp only[j]at h;have:=Ip B.1 j;subst this;cases k:dm l1 ts with
   |none=>simp[k]at h
   |some q=>
    obtain⟨xs,F⟩:=q;simp only[k,c4,et]at h;rw[<-h.2];exact Jf ts B.2 k
def Qa{l L:List AO}(B:eQ l L){t:T}{x:D}{l':List AO}(k:kj l t=true)(h:cO l t=some (x,l')):cO L t=some (x,L)/\kj L t=true:=by
 cases t<;>simp[kj,cO]at k h⊢
 ·exact h.1
 ·exact h.1
 ·rename_i id;cases j:l[id]? with
  |none=>simp[j]at k
  |some o=>cases o<;>simp[j]at k h;simp[B.get j,h.1]
 ·rename_i id;cases j:l[id]? with
  |none=>simp[j]at k
  |some o=>cases o<;>simp[j]at k h;simp[B.get j,h.1]
 exact h.1
def Jc:∀(ts:List T){l L:List AO}{ds:List D}{l':List AO},eQ l L->ts.all (kj l)=true->dm l ts=some (ds,l')->dm L ts=some (ds,L)
 | [],l,L,ds,l',_,_,h=>by simp[dm]at h⊢;exact h.1
 |t::ts,l,L,ds,l',F,k,h=>by
  simp only[List.all_cons,dk]at k;simp only[dm]at h⊢;cases j:cO l t with
  |none=>simp[j]at h
  |some p=>
   obtain⟨x,l1⟩:=p;simp only[j]at h;have:=Ip k.1 j;subst this;cases B:dm l1 ts with
   |none=>simp[B]at h
   |some q=>
    obtain⟨xs,G⟩:=q;simp only[B,c4,et]at h;rw[(Qa F k.1 j).1];simp only[Jc ts F k.2 B,h.1]
def ZU{l L:List AO}(B:eQ l L){t:T}(k:kj l t=true):kj L t=true:=by
 cases t<;>simp[kj]at k⊢
 ·rename_i id;cases j:l[id]? with
  |none=>simp[j]at k
  |some o=>cases o<;>simp[j]at k;simp[B.get j]
 rename_i id;cases j:l[id]? with
 |none=>simp[j]at k
 |some o=>cases o<;>simp[j]at k;simp[B.get j]
def aaX{v:Value}{ts:List T}(h:az I m l v (.agg ts)):∃vs:Array Value,v=.agg vs/\vs.size=ts.length/\(∀(i:Nat) v,vs[i]?=some v->v.oneCell'=true)/\∀(i:Nat) v t,vs[i]?=some v->ts[i]?=some t->az I m l v t:=by
 cases h with
 |agg vs _ j k B=>exact⟨vs,rfl,j,k,B⟩
def yC{l:List AO}{ts:List T}{x:D}{l':List AO}(h:dw l (.agg ts)=some (x,l')):∃ds,x=.agg ds/\dm l ts=some (ds,l'):=by
 simp only[dw]at h;cases j:dm l ts with
 |none=>rw[j]at h;cases h
 |some p=>
  obtain⟨ds,l1⟩:=p;rw[j]at h;simp at h;exact⟨ds,h.1.symm,by rw[h.2]⟩
def yD{l:List AO}{t:T}(h:∀ts,t ≠ .agg ts):dw l t=cO l t:=by
 cases t<;>first|rfl|exact absurd rfl (h _)
def Ow{l:List AO}{t:T}(h:∀ts,t ≠ .agg ts):pw l t=kj l t:=by
 cases t<;>first|rfl|exact absurd rfl (h _)
theorem sG(B:aJ w0 I0 w I m l){v:Value}{t:T}{x:D}{l':List AO}(ht:az I m l v t)(j:dw l t=some (x,l')):∃J,Le I m l J m l'/\aJ w0 I0 w J m l'/\Rd J v x/\l'.length=l.length:=by
 by_cases k:∃ts,t=.agg ts
 ·obtain⟨ts,rfl⟩:=k;obtain⟨ds,rfl,O⟩:=yC j;obtain⟨vs,rfl,G,M,N⟩:=aaX ht;obtain⟨J,le,aa,U,F,Z⟩:=Je ts l I vs.toList ds l' B (by simpa using G) (λi v t hv ht=>N i v t (by simpa using hv) ht) O;have Y:vs.size=ds.length:=by simpa using U
  refine⟨J,le,aa,.agg vs ds Y (λd j=>?_) (λi v d hv j=>F i v d (by simpa using hv) j),Z⟩;obtain⟨i,hi,rfl⟩:=hF.1 j;have hv:vs[i]?=some (vs[i]'(by omega)):=e5 (by omega);exact(F i _ _ (by simpa using hv) (c5 hi)).NR (M i _ hv)
 rw[yD λts h=>k ⟨ts,h⟩]at j;exact Qc B ht j
def nj:∀(ts:List T)(l:List AO)(I:aD)(vs:List Value)(ds:List D)(l':List AO),aJ w0 I0 w I m l->vs.length=ts.length->(∀(i:Nat) v t,vs[i]?=some v->ts[i]?=some t->az I m l v t)->fw l ts=some (ds,l') ->
  ∃J,Le I m l J m l'/\aJ w0 I0 w J m l'/\vs.length=ds.length/\(∀(i:Nat) v d,vs[i]?=some v->ds[i]?=some d->Rd J v d)/\l'.length=l.length
 | [],l,I,vs,ds,l',N,hl,M,j=>by
  simp[fw]at j;obtain⟨rfl,rfl⟩:=j;have:vs=[]:=j0 (by simpa using hl);subst this;exact⟨I,.refl ..,N,rfl,by simp,rfl⟩
 |t::ts,l,I,vs,ds,l',N,hl,M,j=>by
  match vs,hl with
  |v::vs,hl=>
   simp only[fw]at j;cases F:dw l t with
   |none=>simp[F]at j
   |some p=>
    obtain⟨x,l1⟩:=p;simp only[F]at j;cases G:fw l1 ts with
    |none=>simp[G]at j
    |some q=>
     obtain⟨xs,aa⟩:=q;simp only[G,c4,et]at j;obtain⟨rfl,rfl⟩:=j;obtain⟨Y,O,ae,ag,n1⟩:=sG N (M 0 v t rfl rfl) F;obtain⟨Z,U,af,ab,ad,ah⟩:=nj ts l1 Y vs xs aa ae (by simpa using hl) (λi v t hv ht=>(M (i+1) v t (by simpa using hv) (by simpa using ht)).mono O) G;refine⟨Z,O.trans U,af,by simp[ab],λi u d B k=>?_,by omega⟩;rcases i with _|i
     ·simp at B k;subst B;subst k;exact ag.mono U.du
     simp at B k;exact ad i u d B k
def acL{l:List AO}{t:T}{x:D}{l':List AO}(k:pw l t=true)(h:dw l t=some (x,l')):l'=l:=by
 by_cases j:∃ts,t=.agg ts
 ·obtain⟨ts,rfl⟩:=j;obtain⟨ds,rfl,B⟩:=yC h;exact Jf ts k B
 rw[yD λts h=>j ⟨ts,h⟩]at h;rw[Ow λts h=>j ⟨ts,h⟩]at k;exact Ip k h
def acJ{l L:List AO}(B:eQ l L){t:T}{x:D}{l':List AO}(j:pw l t=true)(h:dw l t=some (x,l')):dw L t=some (x,L)/\pw L t=true:=by
 by_cases k:∃ts,t=.agg ts
 ·obtain⟨ts,rfl⟩:=k;obtain⟨ds,rfl,F⟩:=yC h;refine⟨by simp only[dw,Jc ts B j F],?_⟩;simp only[pw,ek]at j⊢;intro t ht;exact ZU B (j t ht)
 rw[yD λts h=>k ⟨ts,h⟩]at h⊢;rw[Ow λts h=>k ⟨ts,h⟩]at j⊢;exact Qa B j h
def Jh:∀(ts:List T){l L:List AO}{ds:List D}{l':List AO},eQ l L->ts.all (pw l)=true->fw l ts=some (ds,l')->fw L ts=some (ds,L)
 | [],l,L,ds,l',_,_,h=>by simp[fw]at h⊢;exact h.1
 |t::ts,l,L,ds,l',F,k,h=>by
  simp only[List.all_cons,dk]at k;simp only[fw]at h⊢;cases j:dw l t with
  |none=>simp[j]at h
  |some p=>
   obtain⟨x,l1⟩:=p;simp only[j]at h;have:=acL k.1 j;subst this;cases B:fw l1 ts with
   |none=>simp[B]at h
   |some q=>
    obtain⟨xs,G⟩:=q;simp only[B,c4,et]at h;rw[(acJ F k.1 j).1];simp only[Jh ts F k.2 B,h.1]
end
def cm(P:Program)(w0:World)(I0:aD)(o:Oper)(ρ:Operand->Value)(w:World)(I:aD)(m:Nat->Value)(l L:List AO)(nid:Nat)(r:R):Prop:=
 match r.bE with
 |.none=>cr P ((execOp ρ o).run P w) λv w'=>∃J,Le I m L J m L/\aJ w0 I0 w' J m L/\az J m L v r.t
 |.new a=>L[nid]?=some .dead->cr P ((execOp ρ o).run P w) λv w'=>∃m',Le I m L I m' (L.set nid a)/\aJ w0 I0 w' I m' (L.set nid a)/\az I m' (L.set nid a) v r.t
 |.aQ l'=>L=l->nid=l.length->cr P ((execOp ρ o).run P w) λv w'=>∃J m',Le I m l J m' l'/\aJ w0 I0 w' J m' l'/\az J m' l' v r.t
section
variable {P:Program}{V:Env}{w0 w:World}{I0 I:aD}{m:Nat->Value}{l L:List AO}{nid:Nat}{o:Oper}{ρ:Operand->Value}{ρT:Operand->T}
theorem cm.val(B:aJ w0 I0 w I m L){r:R}{u:Value}(j:r.bE=.none)(F:(execOp ρ o).run P w=.ok (.value u) w)(k:az I m L u r.t):cm P w0 I0 o ρ w I m l L nid r:=by
 unfold cm;rw[j];simp only[F,cr];exact⟨I,.refl ..,B,k⟩
def cw{v:Value}{x:D}(h:az I m L v (.d x)):Rd I v x:=by cases h;assumption
def yi{v:Value}{pc:List (Nat×Bool×Bool)}{t:T}(h:az I m L v (.cond pc t))(k:holds pc):az I m L v t:=by cases h;rename_i _ j;exact j k
def Hi(Y:aJ w0 I0 w I m L){c a b:Operand}(G:o.op=.pick c a b)(U:∀x∈o.op.operands,az I m L (ρ x) (ρT x))(j:(qI (ρT c) (ρT a) (ρT b)).ob) :
  cm P w0 I0 o ρ w I m l L nid (qI (ρT c) (ρT a) (ρT b)):=by
 have ae:=U c (by simp[G,Op.operands]);have N:=U a (by simp[G,Op.operands]);have O:=U b (by simp[G,Op.operands]);generalize ρT c=ah at *;generalize ρT a=af at *;generalize ρT b=ag at *;unfold qI at j⊢;split at j
 ·rename_i M;have:=cw ae;generalize ab:ρ c=ai at *;cases this;simp only at j⊢;split at j
  ·rename_i x p y q k B;have Z:M=true->Rd I (ρ a) (.bool x):=by
    intro F;split at k
    ·simp at k;obtain⟨rfl,_⟩:=k;exact cw N
    ·rename_i pc ad;simp only[c4,et]at k;obtain⟨rfl,rfl⟩:=k;exact cw (yi N (j.1 F))
    cases k
   have aa:M=false->Rd I (ρ b) (.bool y):=by
    intro F;split at B
    ·simp at B;obtain⟨rfl,_⟩:=B;exact cw O
    ·rename_i pc ad;simp only[c4,et]at B;obtain⟨rfl,rfl⟩:=B;exact cw (yi O (j.2 F))
    cases B
   refine cm.val Y rfl (u:=if M=true then ρ a else ρ b) ?_ ?_
   ·unfold execOp;simp only[G,ab,asBool,e8,Sem.run_pure,Result.andThen_ok]
   cases M with
   |true=>simpa using az.d _ _ (Z rfl)
   |false=>simpa using az.d _ _ (aa rfl)
  ·rename_i x p k B;obtain⟨F,j⟩:=j;subst F;have Z:Rd I (ρ a) (.bool x):=by
    split at k
    ·simp at k;obtain⟨rfl,_⟩:=k;exact cw N
    ·rename_i pc ad;simp only[c4,et]at k;obtain⟨rfl,rfl⟩:=k;exact cw (yi N (j trivial))
    cases k
   refine cm.val Y rfl (u:=ρ a) ?_ (.d _ _ Z);unfold execOp;simp only[G,ab,asBool,e8,Sem.run_pure,Result.andThen_ok,hK]
  ·rename_i y q k B;obtain⟨F,j⟩:=j;subst F;have aa:Rd I (ρ b) (.bool y):=by
    split at B
    ·simp at B;obtain⟨rfl,_⟩:=B;exact cw O
    ·rename_i pc ad;simp only[c4,et]at B;obtain⟨rfl,rfl⟩:=B;exact cw (yi O (j trivial))
    cases B
   refine cm.val Y rfl (u:=ρ b) ?_ (.d _ _ aa);unfold execOp;simp only[G,ab,asBool,e8,Sem.run_pure,Result.andThen_ok,hR,h9]
  exact j.elim
 exact j.elim
def KB{v:Value}{x:T}(ae:az I m L v x)(N:(bB x).all T.gq=true):v.cells.toList.length=(bB x).length/\(∀u∈v.cells.toList,u.oneCell'=true)/\∀(i:Nat) u t,v.cells.toList[i]?=some u->(bB x)[i]?=some t->az I m L u t:=by
 have one:∀(u:Value),u.oneCell'=true->u.cells.toList=[u]:=λu F=>by cases u<;>simp_all [Value.oneCell',Value.cells]
 have G:∀(t:T),bB t=[t]->az I m L v t->v.oneCell'=true->v.cells.toList.length=(bB t).length/\(∀u∈v.cells.toList,u.oneCell'=true)/\∀(i:Nat) u s,v.cells.toList[i]?=some u->(bB t)[i]?=some s->az I m L u s:=by
  intro t ht ad hv;rw[one v hv,ht];refine⟨rfl,by simpa using hv,λi u s F aa=>?_⟩;rcases i with _|i
  ·simp at F aa;subst F;subst aa;exact ad
  simp at F
 cases ae with
 |undef=>simp[bB,T.gq]at N
 |d _ d ab=>
  by_cases ht:∃ds,d=.aL ds
  ·obtain⟨ds,rfl⟩:=ht;simp[bB,D.cells,T.gq,D.one]at N
  obtain⟨j,B,M⟩:=ab.cells (λds e=>ht ⟨ds,e⟩);refine⟨by simp[bB,j],λu F=>?_,λi u t F O=>?_⟩
  ·obtain⟨i,hi,rfl⟩:=hF.1 F;have Z:i<d.cells.length:=by simp at hi;omega
   exact(M i _ d.cells[i] (by rw[<-j4];exact c5 hi) (c5 Z)).one (B _ (ie Z))
  simp only[bB,e3]at O;cases U:d.cells[i]? with
  |none=>simp[U]at O
  |some y=>
   simp[U]at O;subst O;exact .d _ _ (M i u y (by simpa using F) U)
 |bq s=>exact G _ rfl (.bq s) rfl
 |ptr id b off j B=>exact G _ rfl (.ptr id b off j B) rfl
 |bu b o size els k off val j B M Y=>exact G _ rfl (.bu b o size els k off val j B M Y) rfl
 |aL=>simp[bB,T.gq]at N
 |cond=>simp[bB,T.gq]at N
 |row A n c id j B=>exact G _ rfl (.row A n c id j B) rfl
 |bI A n c id x j B M=>exact G _ rfl (.bI A n c id x j B M) rfl
 |bx a id k off j B=>exact G _ rfl (.bx a id k off j B) rfl
 |map r id j B=>exact G _ rfl (.map r id j B) rfl
 |aH g vs ts j B=>exact G _ rfl (.aH g vs ts j B) rfl
 |bj id b j B=>exact G _ rfl (.bj id b j B) rfl
 |cC id b n c j B M Y=>exact G _ rfl (.cC id b n c j B M Y) rfl
 |sub A n c id lo hi j B=>exact G _ rfl (.sub A n c id lo hi j B) rfl
 |agg vs ts j B M=>
  refine⟨by simp[bB,Value.cells,j],λu F=>?_,λi u t F ht=>M i u t (by simpa [Value.cells]using F) (by simpa [bB]using ht)⟩;obtain⟨i,hi,rfl⟩:=hF.1 F;simp only[Value.cells]at hi⊢;exact B i _ (by rw[<-j4];exact c5 hi)
def Nw(k:aJ w0 I0 w I m L)(j:L[nid]?=some .dead){ty:TypeId}{vs:Array Value}{cs:List T}(hl:vs.toList.length=cs.length)(G:∀u∈vs.toList,u.oneCell'=true)(N:∀(i:Nat) u t,vs.toList[i]?=some u->cs[i]?=some t->az I m L u t) :
  ∃m',Le I m L I m' (L.set nid (.var ty cs))/\aJ w0 I0 (w.alloc (.cells vs ty)) I m' (L.set nid (.var ty cs))/\az I m' (L.set nid (.var ty cs)) (.pointer (some ⟨w.heap.size,0,none⟩)) (.ptr nid 0):=by
 have B:Le I m L I (aQ m nid (.pointer (some ⟨w.heap.size,0,none⟩))) (L.set nid (.var ty cs)):=Le.new j rfl;have M:nid<L.length:=(db.1 j).1;refine⟨_,B,k.alloc _ j rfl rfl ⟨w.heap.size,vs,rfl,k.below.size,vi w _,by simpa using hl,λi x t F ht=>?_,k.sat.dX (ec _)⟩,?_⟩
 ·exact⟨(N i x t (by simpa using F) ht).mono B,G x (dd (by simpa using F:vs.toList[i]?=some x))⟩
 exact .ptr nid _ 0 (by unfold isVar;rw[e0,if_pos rfl,if_pos M];rfl) (dH m nid _)
def UB(O:aJ w0 I0 w I m L){e:TypeId}{x:Operand}(M:o.op=.box e x)(N:az I m L (ρ x) (ρT x))(F:(bB (ρT x)).all T.gq=true) :
  cm P w0 I0 o ρ w I m l L nid ⟨.ptr nid 0,.new (.var e (bB (ρT x))),(bB (ρT x)).all T.gq=true⟩:=by
 intro G;obtain⟨j,k,B⟩:=KB N F;have U:(execOp ρ o).run P w=.ok (.value (.pointer (some ⟨w.heap.size,0,none⟩))) (w.alloc (.cells (ρ x).cells e)):=by
  unfold execOp;simp[M,Instr.box,newVar,newRow]
 simp only[U,cr];exact Nw O G j k B
def Dg:∀{vs:List Value}{ds:List D}{j:Nat}{v:Value}{d:D},fZ vs ds=true->vs[j]?=some v->ds[j]?=some d->pL v d=true
 | [],[],_,_,_,_,h,_=>by simp at h
 |v::vs,d::ds,j,u,e,h,hu,k=>by
  simp only[fZ,dk]at h;rcases j with _|j
  ·simp at hu k;subst hu;subst k;exact h.1
  simp at hu k;exact Dg h.2 hu k
 | [],_::_,_,_,_,h,_,_=>by simp[fZ]at h
 |_::_,[],_,_,_,h,_,_=>by simp[fZ]at h
def QT{v:Value}{d:D}(h:pL v d=true):az I m L v (lG d):=by
 unfold lG;split
 ·have:v=.slice none 0 0:=by
   cases v<;>simp[pL]at h
   rename_i a n c;cases a<;>cases n<;>cases c<;>simp_all [pL]
  subst this;exact .bq _
 exact .d _ _ (IN I h).1
def Q6(N:ct P V.E)(Z:aJ w0 I0 w I m L){e:TypeId}{i:TI}(Y:o.op=.alloc e)(hi:V.E e=some i) :
  cm P w0 I0 o ρ w I m l L nid ⟨.ptr nid 0,.new (.var e (i.zero.map lG)),True⟩:=by
 intro U;obtain⟨z,M,F,af,ag⟩:=yo N hi w;obtain⟨ab,ad,ae⟩:=qQ I _ _ F;have aa:(execOp ρ o).run P w=.ok (.value (.pointer (some ⟨w.heap.size,0,none⟩))) (w.alloc (.cells z.cells e)):=by
  unfold execOp;simp[Y,Instr.alloc,M,newVar,newRow]
 simp only[aa,cr];refine Nw Z U (by simpa using ab) (λu k=>?_) (λj u t k ht=>?_)
 ·obtain⟨j,O,rfl⟩:=hF.1 k;have G:j<i.zero.length:=by omega
  exact(ae j _ _ (c5 O) (c5 G)).one (ad _ (ie G))
 rw[e3]at ht;cases B:i.zero[j]? with
 |none=>simp[B]at ht
 |some d=>simp[B]at ht;subst ht;exact QT (Dg F k B)
theorem WG(Z:ct P V.E){s:TypeId}{f:Nat}{v:Value}{x:T}(ah:az I m L v x)(j:(lS V.E s f x).ob) :
  (lS V.E s f x).bE=.none/\∃u,(Instr.fieldAt s v f).run P w=.ok u w/\az I m L u (lS V.E s f x).t:=by
 have key:∀{a:Addr}{sz U:Nat}{z:List D}{fs:List (Nat×TypeId)}{p:Nat×TypeId},V.E s=some ⟨sz,U,z,.struct fs⟩->fs[f]?=some p->0<bJ V.E p.2 ->
   (Instr.fieldAt s (.pointer (some a)) f).run P w=.ok (.pointer (some (a.add p.1))) w:=by
  intro a sz U z fs p G F B;obtain⟨Y,ag,rfl⟩:=Ix Z G;rw[e3]at F;cases O:Y.toList[f]? with
  |none=>simp[O]at F
  |some g=>
   simp[O]at F;subst F;have ab:Y[f]?=some g:=by simpa using O
   have af:∃n,(sizeOf g.type).run P w=.ok n w/\n≠0:=by
    cases hi:V.E g.type with
    |none=>simp[bJ,hi]at B
    |some i=>exact⟨i.size,mQ Z hi w,by simp[bJ,hi]at B;omega⟩
   obtain⟨n,ad,ae⟩:=af;simp[Instr.fieldAt,hE ag,ab,Instr.sureAddr,fieldPlace,ad,ae]
 cases ah with
 |ptr id b off M N=>
  simp only[lS]at j⊢;split at j
  ·rename_i fs G;split at j
   ·rename_i p F;split at j
    ·rename_i B;simp only[if_pos B];exact⟨rfl,_,key G F B,by rw[qc];exact .ptr id b _ M N⟩
    exact j.elim
   exact j.elim
  exact j.elim
 |bu b o size els k off val M N ai aj=>
  simp only[lS]at j⊢;split at j
  ·rename_i fs G;split at j
   ·rename_i p F;split at j
    ·rename_i B;simp only[if_pos B];refine⟨rfl,_,key G F B,?_⟩;rw[qc,r0];exact .bu b o size els k _ val M N ai aj
    exact j.elim
   exact j.elim
  exact j.elim
 |bx a id k off M N=>
  simp only[lS]at j⊢;split at j
  ·rename_i fs G;split at j
   ·rename_i p F;split at j
    ·rename_i B;simp only[if_pos B];refine⟨rfl,_,key G F B,.bx _ id k _ M λe size els hl=>?_⟩;obtain⟨b,n,c,aa,rfl⟩:=N e size els hl;exact⟨b,n,c,aa,by rw[qc,r0]⟩
    exact j.elim
   exact j.elim
  exact j.elim
 |_=>exact j.elim
theorem WD(G:ct P V.E){s:TypeId}{f:Nat}{v:Value}{x:T}(al:az I m L v x)(k:(oK V.E s f x).ob) :
  (oK V.E s f x).bE=.none/\∃u,(Instr.field s v f).run P w=.ok u w/\az I m L u (oK V.E s f x).t:=by
 unfold oK at k⊢;split at k
 ·rename_i cs;split at k
  ·rename_i fs aj;split at k
   ·rename_i p M;split at k
    ·rename_i i hi;split at k
     ·rename_i ab;simp only[if_pos ab];have:=cw al;generalize F:D.agg cs=aq at this;cases this<;>first| (cases F;done)|skip
      rename_i vs ds an ao ag;injection F with F;subst F;obtain⟨Y,af,rfl⟩:=Ix G aj;rw[e3]at M;cases U:Y.toList[f]? with
      |none=>simp[U]at M
      |some g=>
       simp[U]at M;subst M;have aa:Y[f]?=some g:=by simpa using U
       simp only at hi ab⊢;have Z:=Pk G hi;have ak:=mQ G hi;cases O:i.desc.agg with
       |true=>
        refine⟨rfl,.agg (vs.extract g.offset (g.offset+i.size)),?_,?_⟩
        ·simp only[Instr.field,e8,hE af,Result.andThen_ok,aa,asAgg,Sem.run_pure,part,Z,O,hK,ak]
        simp only[R.ok,eK,hK];refine .d _ _ (.agg _ _ (by simp[an];omega) (λd ai=>ao d (sa (n4 ai))) (λj u d N B=>?_));rw[hQ]at B;split at B
        ·rename_i ar;rw[kd]at B;rw[Array.getElem?_extract]at N;split at N
         ·exact ag _ u d N B
         cases N
        cases B
       |false=>
        have ah:=CS G hi O;have ad:g.offset<vs.size:=by omega
        refine⟨rfl,vs[g.offset],?_,?_⟩
        ·simp only[Instr.field,e8,hE af,Result.andThen_ok,aa,asAgg,Sem.run_pure,part,Z,O,hR,h9,e5 ad]
        have ae:g.offset<cs.length:=by omega
        have:((cs.drop g.offset).take i.size).headD .dV=cs[g.offset]:=by
         rw[ah,hS ae];rfl
        simp only[R.ok,eK,hR,h9,this];exact .d _ _ (ag g.offset _ _ (e5 ad) (c5 ae))
     exact k.elim
    exact k.elim
   exact k.elim
  exact k.elim
 exact k.elim
def QP{n:Int}(h: -9223372036854775808<=n/\n<=9223372036854775807):IntKind.i64.wrap n=n:=IntWalk.i64_in n (by omega)
def yW{k:IntKind}{n:Int}(h:(arith k n).2):(arith k n).1=.int k (k.wrap n):=by
 cases k<;>simp only[arith]at h⊢
 rw[QP h]
theorem Ux(O:qT P V.jE){N:BinOp}{ty:TypeId}{x y:Operand}{u v:Value}{a b:D}(F:Rd I u a)(G:Rd I v b){r:D}{ob:Prop}(h:eS V.jE N ty a b=some (r,ob))(j:ob) :
  ∃z,((do eqGuard N ty x y u v;binOp N ty u v:Sem Value)).run P w=.ok z w/\Rd I z r:=by
 unfold eS at h;split at h
 ·
  rename_i k p U q;cases F;cases G;have Z:∀w,0<=q->((do eqGuard .shr ty x y (.int k p) (.int U q);binOp .shr ty (.int k p) (.int U q):Sem Value)).run P w=.ok (.int k (vr k p q)) w:=λw aa=>by
   have M:(eqGuard .shr ty x y (.int k p) (.int U q)).run P w=.ok () w:=by rw[eqGuard_at_int];rfl
   have:¬q<0:=by omega
   simp only[e8,M,Result.andThen_ok];simp[binOp,Op.shift,this,vr]
  split at h
  ·unfold HZ at h;split at h
   ·simp only[c4,et]at h;obtain⟨rfl,rfl⟩:=h;exact⟨_,Z w j,.int _ _⟩
   cases h
  rename_i B;have B:k=U:=Decidable.not_not.1 B;subst B;have M:∀w,(eqGuard N ty x y (.int k p) (.int k q)).run P w=.ok () w:=λw=>by rw[eqGuard_at_int];rfl
  simp only[e8,M,Result.andThen_ok];split at h<;>first| (cases h;done)|skip
  all_goals try simp only[c4,et]at h
  ·obtain⟨rfl,rfl⟩:=h;have:=Z w j;simp only[e8,M,Result.andThen_ok]at this;exact⟨_,this,.int _ _⟩
  ·obtain⟨rfl,rfl⟩:=h;exact⟨_,by simp[binOp,Op.intBits];rfl,.int _ _⟩
  ·obtain⟨rfl,rfl⟩:=h;exact⟨_,by rw[binOp_add];rfl,by rw[yW j];exact .int _ _⟩
  ·obtain⟨rfl,rfl⟩:=h;exact⟨_,by rw[binOp_sub];rfl,by rw[yW j];exact .int _ _⟩
  ·obtain⟨rfl,rfl⟩:=h;exact⟨_,by rw[binOp_mul];rfl,by rw[yW j];exact .int _ _⟩
  ·split at h
   ·simp only[c4,et]at h;obtain⟨rfl,rfl⟩:=h;refine⟨.int .i64 (IntKind.i64.wrap (p.tdiv q)),by rw[binOp_quo];simp[Op.intDiv,j.1],?_⟩;rw[QP (by have:=j.2;omega)];exact .int _ _
   cases h
  ·obtain⟨rfl,rfl⟩:=h;refine⟨.int k (p.tmod q),by rw[binOp_rem];simp[Op.intDiv,show q≠0 from j],?_⟩;exact .int _ _
  ·obtain⟨rfl,rfl⟩:=h;exact⟨_,by rw[binOp_eql];rfl,by rw[show(p == q)=decide (p=q) by rw[gl];simp];exact .bool _⟩
  ·obtain⟨rfl,rfl⟩:=h;exact⟨_,by rw[binOp_neq];rfl,by rw[show(p != q) = !decide (p=q) by rw[gl];simp[bne]];exact .bool _⟩
  ·obtain⟨rfl,rfl⟩:=h;exact⟨_,by rw[binOp_lss];rfl,.bool _⟩
  ·obtain⟨rfl,rfl⟩:=h;exact⟨_,by rw[binOp_leq];rfl,.bool _⟩
  ·obtain⟨rfl,rfl⟩:=h;exact⟨_,by rw[binOp_gtr];rfl,.bool _⟩
  obtain⟨rfl,rfl⟩:=h;exact⟨_,by rw[binOp_geq];rfl,.bool _⟩
 ·
  rename_i p q;split at h
  ·split at h
   ·rename_i B;simp only[c4,et]at h;obtain⟨rfl,rfl⟩:=h;exact⟨_,O ty _ B .eql x y I u v _ _ w F G (.inl ⟨_,_,rfl,rfl,rfl⟩) (.inl rfl),by simp[gB];exact .bool _⟩
   cases h
  ·split at h
   ·rename_i B;simp only[c4,et]at h;obtain⟨rfl,rfl⟩:=h;exact⟨_,O ty _ B .neq x y I u v _ _ w F G (.inl ⟨_,_,rfl,rfl,rfl⟩) (.inr rfl),by simp[gB];exact .bool _⟩
   cases h
  cases h
 ·
  rename_i p q;cases F;cases G;have M:∀w,(eqGuard N ty x y (.string p) (.string q)).run P w=.ok () w:=λw=>by rw[eqGuard_at_string];rfl
  simp only[e8,M,Result.andThen_ok];split at h<;>first| (cases h;done)|skip
  all_goals simp only[c4,et]at h;obtain⟨rfl,rfl⟩:=h
  ·exact⟨.bool (p == q),by rw[adT];simp[binOp,Op.stringOp],.bool _⟩
  ·exact⟨.bool (!(p == q)),by rw[adT];simp[binOp,Op.stringOp],.bool _⟩
  exact⟨.string (p++q),by simp[binOp,Op.stringOp,j],.str _⟩
 ·
  rename_i xs ys;split at h
  ·split at h
   ·rename_i ls B;split at h
    ·cases h
    rename_i Y;simp only[c4,et]at h;obtain⟨rfl,rfl⟩:=h;exact⟨_,O ty _ B .eql x y I u v _ _ w F G (.inr ⟨_,_,rfl,rfl,Y,j.1,j.2⟩) (.inl rfl),by simp[gB];exact .bool _⟩
   cases h
  ·split at h
   ·rename_i ls B;split at h
    ·cases h
    rename_i Y;simp only[c4,et]at h;obtain⟨rfl,rfl⟩:=h;exact⟨_,O ty _ B .neq x y I u v _ _ w F G (.inr ⟨_,_,rfl,rfl,Y,j.1,j.2⟩) (.inr rfl),by simp[gB];exact .bool _⟩
   cases h
  cases h
 cases h
theorem acU{k:UnOp}{u:Value}{a:D}(j:Rd I u a){r:D}{ob:Prop}(h:yE k a=some (r,ob))(B:ob):∃z,(Op.unary k u).run P w=.ok z w/\Rd I z r:=by
 unfold yE at h;split at h
 ·cases j;split at h
  ·simp only[c4,et]at h;obtain⟨rfl,rfl⟩:=h;exact⟨_,by simp only[Op.unary,Sem.run_pure],.bool _⟩
  cases h
 ·cases j;split at h
  ·simp only[c4,et]at h;obtain⟨rfl,rfl⟩:=h;exact⟨_,by simp[Op.unary,Op.intArith];rfl,by rw[yW B];simp;exact .int _ _⟩
  cases h
 cases h
def Xq(ab:ct P V.E)(ay:aJ w0 I0 w I m L)(av:eQ l L){t:TypeId}{v ag:Value}{x i:T}(ao:az I m L v x)(hi:az I m L ag i)(B:(kN V.E t l x i).ob) :
  (kN V.E t l x i).bE=.none/\∃u,(Instr.indexAt t v ag).run P w=.ok u w/\az I m L u (kN V.E t l x i).t:=by
 unfold kN at B⊢;split at B
 ·rename_i e k n ak G;have an:ag=.int k n:=by
   unfold dM at G;split at G
   ·simp at G;obtain⟨rfl,rfl⟩:=G;have:=cw hi;cases this;rfl
   cases G
  subst an;have al:=mW ab ak;have key:∀(a:Addr)(len ah:Nat),0<=n->n<len->∀z,(V.E e).map TI.size=some z->(Instr.indexAt t (.slice (some a) len ah) (.int k n)).run P w=.ok (.pointer (some (a.add (n.toNat*z)))) w:=by
   intro a len ah h0 O z Z;cases N:V.E e with
   |none=>simp[N]at Z
   |some aq=>
    simp[N]at Z;simp[Instr.indexAt,hE al,asIntOf,h0,O,mQ ab N,Z]
  have ax:∀{size:Nat},size=bJ V.E e/\0<size->(V.E e).map TI.size=some size:=by
   intro size F;unfold bJ at F;cases N:V.E e with
   |none=>simp[N]at F;omega
   |some aq=>simp[N]at F;simp[F.1]
  split at B
  ·rename_i size els;split at B
   ·rename_i F;simp only[if_pos F];obtain⟨h0,O⟩:=B;have:=cw ao;generalize ai:D.slice size els=aH at this;cases this<;>first| (cases ai;done)|skip
    ·injection ai with au aj;subst aj;simp at O;omega
    rename_i b off len c aL els' val U Y af ar aF aG;injection ai with au aj;subst au;subst aj;refine⟨trivial,_,key _ len c h0 (by omega) size (ax F),?_⟩;rw[qc];have:=az.bu (I:=I) (m:=m) (l:=L) b off size els n.toNat 0 val (by omega) ar (λj aA=>aF j (by rw[<-U];exact aA)) aG;simpa using this
   exact B.elim
  ·rename_i id;have go:∀M size els,l[id]?=some (.row M size els)\/l[id]?=some (.bn M size els)->size=bJ V.E e/\0<size->0<=n/\n<els.length ->
     ∃u,(Instr.indexAt t v (.int k n)).run P w=.ok u w/\az I m L u (.bx id n.toNat 0):=by
    intro M size els ho F ⟨h0,O⟩;have ad:L[id]?=some (.row M size els)\/L[id]?=some (.bn M size els):=by rcases ho with ho|ho;exact .inl (av.get ho);exact .inr (av.get ho)
    have aD:∃A ae c,v=.slice A ae c/\m id=v:=by
     cases ao with
     |row A ae c _ U Y=>exact⟨A,ae,c,rfl,Y (by unfold isRow;rcases ad with h|h<;>simp[h,AO.isRow])⟩
    obtain⟨A,ae,c,rfl,aB⟩:=aD;have aC:∃xs,w.ownsRow w0.heap.size M size (m id) els.length xs:=by
     rcases ad with h|h
     ·obtain⟨xs,aa,_⟩:=ay.obj id _ h;exact⟨xs,aa⟩
     obtain⟨xs,aa,_⟩:=ay.obj id _ h;exact⟨xs,aa⟩
    obtain⟨xs,aa⟩:=aC;rcases aa.2 with ⟨_,q⟩| ⟨g,ah,cur,q,_⟩
    ·simp[q]at O;omega
    have aE:=aB.symm.trans q;injection aE with U Y af;subst U;subst Y;subst af;refine⟨_,key _ _ _ h0 O size (ax F),.bx _ id _ 0 ?_ λaI s1 aK hl=>⟨g,els.length,_,q,?_⟩⟩
    ·rcases ad with h|h<;>exact(db.1 h).1
    have:s1=size:=by rcases ad with h|h<;>rcases hl with hl|hl<;>rw[h]at hl<;>cases hl<;>rfl
    subst this;rw[qc];simp
   split at B
   ·rename_i M size els ho;split at B
    ·rename_i F;simp only[if_pos F];exact⟨trivial,go M size els (.inl ho) F B⟩
    exact B.elim
   ·rename_i M size els ho;split at B
    ·rename_i F;simp only[if_pos F];exact⟨trivial,go M size els (.inr ho) F B⟩
    exact B.elim
   exact B.elim
  exact B.elim
 ·rename_i len e k n ak G;have an:ag=.int k n:=by
   unfold dM at G;split at G
   ·simp at G;obtain⟨rfl,rfl⟩:=G;have:=cw hi;cases this;rfl
   cases G
  subst an;have al:=Qv ab ak;split at B
  ·rename_i size els q off;split at B
   ·rename_i aw;simp only[if_pos aw];obtain⟨h0,O⟩:=B;obtain⟨aq,N⟩:=o6.1 aw;cases ao with
    |bu b o _ _ _ _ val U Y af ar=>
     refine⟨trivial,.pointer (some ⟨b,o+q*size+(off+n.toNat*bJ V.E e),none⟩),?_,.bu b o size els q _ val U Y af ar⟩;have Z:bJ V.E e=aq.size:=by simp[bJ,N]
     simp[Instr.indexAt,Instr.sureAddr,hE al,asIntOf,h0,O,mQ ab N,Z,qc,r0]
   exact B.elim
  exact B.elim
 exact B.elim
end
def WK{size:Nat}(els:List D)(j:∀d∈els,d.cells.length=size)(k:Nat):flat (els.drop k)=(flat els).drop (k*size):=by
 induction els generalizing k with
 |nil=>simp[flat]
 |cons e els G=>
  have F:=j e (by simp);rcases k with _|k
  ·simp
  simp only[List.drop_succ_cons];rw[G (λd B=>j d (by simp[B])) k];simp only[flat,hL];rw[show(k+1)*size=e.cells.length+k*size by rw[F,p5];omega,<-ti,List.drop_left]
def LL{size:Nat}(els:List D)(j:∀d∈els,d.cells.length=size)(k:Nat):flat (els.take k)=(flat els).take (k*size):=by
 induction els generalizing k with
 |nil=>simp[flat]
 |cons e els G=>
  have F:=j e (by simp);rcases k with _|k
  ·simp[flat]
  simp only[List.take_succ_cons];have:=G (λd B=>j d (by simp[B])) k;simp only[flat,hL]at this⊢;rw[show(k+1)*size=e.cells.length+k*size by rw[F,p5];omega,List.take_length_add_append,this]
def EF(a b:List D):flat (a++b)=flat a++flat b:=by simp[flat]
section
variable {P:Program}{V:Env}{w0 w:World}{I0 I:aD}{m:Nat->Value}{l L:List AO}{nid:Nat}{o:Oper}{ρ:Operand->Value}{ρT:Operand->T}
def OT{A:Option Addr}{n c lo hi size:Nat}{els:List D}(h:Rd I (.slice A n c) (.slice size els))(ad:lo<=hi)(M:hi<=els.length) :
  n=els.length/\n<=c/\Rd I (.slice (if c=lo then A else A.map (·.add (lo*size))) (hi-lo) (c-lo)) (.slice size ((els.take hi).drop lo)):=by
 cases h with
 |ko A c size N=>
  have:hi=0:=by simpa using M
  subst this;have:lo=0:=by omega
  subst this;refine⟨rfl,j3 _,?_⟩;simpa using Rd.ko (I:=I) _ c size N
 |slice b off n c size els val Y Z af G aa ab=>
  refine⟨Y.symm,Z,?_⟩;by_cases O:lo=hi
  ·subst O;have:(els.take lo).drop lo=[]:=by simp
   rw[this,Nat.sub_self];exact .ko _ _ _ (by omega)
  have U:c≠lo:=by omega
  rw[if_neg U];simp only[Option.map_some,qc];have F:∀d∈els,d.cells.length=size:=λd j=>(G d j).1;refine .slice b (off+lo*size) (hi-lo) (c-lo) size _ (λk=>val (lo*size+k)) (by simp;omega) (by omega) (by omega) (λd j=>G d (n4 (sa j))) (λk ae=>?_) (λk x B=>?_)
  ·rw[r0];apply aa;have:lo*size+(hi-lo)*size=hi*size:=by rw[<-p5];congr 1;omega
   have:hi*size<=n*size:=la _ (by omega);omega
  rw[WK _ (λd j=>F d (n4 j)),LL _ F,kd,hQ]at B;split at B
  ·exact ab _ x B
  cases B
theorem PL(Y:ct P V.E){t e:TypeId}{sz af:Nat}{z:List D}(al:V.E t=some ⟨sz,af,z,.slice e⟩){v:Value}{x:T}{lo hi:Option Operand}(au:az I m L v x)(ab:∀a,lo=some a->az I m L (ρ a) (ρT a))(Z:∀a,hi=some a->az I m L (ρ a) (ρT a))(aq:∀size els,x=.d (.slice size els)->size=bJ V.E e/\(V.E e).isSome=true)(j:(ly x (lo.map ρT) (hi.map ρT)).ob) :
  (ly x (lo.map ρT) (hi.map ρT)).bE=.none/\∃u,(Instr.sliceAt t v (lo.map ρ) (hi.map ρ) none).run P w=.ok u w/\az I m L u (ly x (lo.map ρT) (hi.map ρT)).t:=by
 have ae:=mW Y al;have F:P.underlying t=some (.slice (P.elem t)):=by simp[Program.elem,ae]
 have aj:P.elem t=e:=by simp[Program.elem,ae]
 have hint:∀{a:T}{k:IntKind}{n:Int}{v:Value},dM a=some (k,n)->az I m L v a->v=.int k n:=by
  intro a k n v B ak;unfold dM at B;split at B
  ·simp at B;obtain⟨rfl,rfl⟩:=B;have:=cw ak;cases this;rfl
  cases B
 unfold ly at j⊢;split at j
 ·rename_i size els;obtain⟨an,ao⟩:=aq size els rfl;have U:=cw au;obtain⟨A,n,c,rfl⟩:∃A n c,v=.slice A n c:=by cases U<;>exact⟨_,_,_,rfl⟩
  obtain⟨aw,aa⟩:=o6.1 ao;have av:aw.size=size:=by rw[an];simp[bJ,aa]
  have M:(sizeOf (P.elem t)).run P w=.ok size w:=by rw[aj,mQ Y aa,av]
  have G:∀a b,(Instr.sliceAt t (.slice A n c) a b none).run P w=(Instr.slice t (.slice A n c) a b none).run P w:=λa b=>run_sliceAt_slice w t _ a b none F;have fin:∀lo hi:Nat,lo<=hi->hi<=els.length->az I m L (sliced A lo hi c size) (.d (.slice size ((els.take hi).drop lo))):=by
   intro lo hi ag ah;obtain⟨_,_,ai⟩:=OT U ag ah;refine .d _ _ ?_;simpa [sliced]using ai
  obtain⟨ad,ax,_⟩:=OT U (j3 els.length) (ec _);cases lo with
  |none=>
   cases hi with
   |none=>
    simp only[Option.map_none]at j⊢;refine⟨rfl,_,by rw[G,run_slice_all w t A n c F,M];rfl,?_⟩;have:=fin 0 els.length (j3 _) (ec _);rw[ad];simpa [R.ok]using this
   |some b=>
    simp only[Option.map_none,Option.map_some]at j⊢;split at j
    ·rename_i k h O;have hv:=hint O (Z b rfl);simp only;refine⟨trivial,_,by rw[G,hv,run_slice_h w t A n c F _ _ j.1 (by omega),M];rfl,?_⟩;have:=fin 0 h.toNat (j3 _) (by omega);simpa using this
    exact j.elim
  |some a=>
   cases hi with
   |none=>
    simp only[Option.map_none,Option.map_some]at j⊢;split at j
    ·rename_i k h N;have hv:=hint N (ab a rfl);simp only;refine⟨trivial,_,by rw[G,hv,run_slice_l w t A n c F _ _ j.1 (by omega),M];rfl,?_⟩;have:=fin h.toNat els.length (by omega) (ec _);rw[ad];simpa using this
    exact j.elim
   |some b=>
    simp only[Option.map_some]at j⊢;split at j
    ·rename_i k g ay h N O;have hv:=hint N (ab a rfl);have ar:=hint O (Z b rfl);simp only;refine⟨trivial,_,by rw[G,hv,ar,run_slice_lh w t A n c F _ _ _ _ j.1 j.2.1 (by omega),M];rfl,?_⟩;exact fin g.toNat h.toNat (by omega) (by omega)
    exact j.elim
 exact j.elim
end
section
variable {P:Program}{V:Env}{w0 w:World}{I0 I:aD}{m:Nat->Value}{l L:List AO}
def EH{size:Nat}:∀(els:List D)(k:Nat)(x:D),(∀d∈els,d.cells.length=size)->k<els.length->flat (els.set k x)=(flat els).take (k*size)++x.cells++(flat els).drop (k*size+size)
 | [],k,x,_,hk=>by simp at hk
 |d::els,0,x,j,_=>by
  have B:=j d (by simp);simp[flat,<-B,za]
 |d::els,k+1,x,j,hk=>by
  have B:=j d (by simp);have O:=EH els k x (λy N=>j y (by simp[N])) (by simpa using hk);have F:(k+1)*size=d.cells.length+k*size:=by rw[B,B1,adL]
  have G:flat (d::els)=d.cells++flat els:=by simp[flat]
  have M:flat (d::els.set k x)=d.cells++flat (els.set k x):=by simp[flat]
  rw[List.set_cons_succ,M,O,G,F,List.take_append,za];simp[j5,vy,h7,show d.cells.length+k*size+size-d.cells.length=k*size+size by omega,w2 (show d.cells.length<=d.cells.length+k*size+size by omega)]
def Ij{α:Type}(A V:List α)(p s N:Nat)(k:p+s<=N)(j:N<=A.length)(hv:V.length=s):(A.take p++V++A.drop (p+s)).take N=(A.take N).take p++V++(A.take N).drop (p+s):=by
 apply hX;intro i;simp only[hQ,hC,dT,fb,kd,hv,qd (show p<=A.length by omega),qd j,qd (show p<=N by omega)];by_cases a:i<N
 ·by_cases b:i<p
  ·simp[a,b,show i<p+s by omega]
  by_cases c:i<p+s
  ·simp[a,b,c]
  simp[a,b,c,show p+s+(i-(p+s))<N by omega]
 simp[a,show ¬i<p by omega,show ¬i<p+s by omega,show ¬p+s+(i-(p+s))<N by omega]
theorem aJ.C0(F:aJ w0 I0 w I m l){id b e size n c:Nat}{els els':List D}{cur new:Array Value}{xs:List Value}(G:l[id]?=some (.row e size els))(Z:m id=.slice (some ⟨b,0,none⟩) n c)(aw:w.heap[b]?=some (.cells cur e (0,0)))(au:(w.setRow b new).ownsRow w0.heap.size e size (.slice (some ⟨b,0,none⟩) n c) els'.length xs)(av:∀d∈els',d.cells.length=size/\∀x∈d.cells,x.one=true)(ar:∀(j:Nat) x y,xs[j]?=some x->(flat els')[j]?=some y->Rd I x y) :
  Le I m l I m (l.set id (.row e size els'))/\aJ w0 I0 (w.setRow b new) I m (l.set id (.row e size els')):=by
 obtain⟨aF,aB,aC,aD,ax⟩:=F.obj id _ G;have ae:id<l.length:=(db.1 G).1;have aa:I.dX b:=ax b (by rw[Z];rfl);have aA:w0.heap.size<=b:=((F.obj id _ G).lt (by simp) (by rw[Z];rfl)).2;have ag:Le I m l I m (l.set id (.row e size els')):=by
  refine⟨.refl I,by simp,λk _ Y=>⟨(lY (o':=.row e size els') G rfl k).trans Y,rfl⟩,λk _ Y=>⟨(lW (o':=.row e size els') G rfl k).symm.trans Y,rfl⟩,λk ay aE ai Y hh=>?_⟩;by_cases af:k=id
  ·subst af;rw[e0,if_pos rfl,if_pos ae]at hh;rcases hh with hh|hh
   ·injection hh with hh;injection hh with ak al az;subst ak;subst al;exact⟨els,.inl G⟩
   cases hh
  rw[e0,if_neg (hU af)]at hh;exact⟨ai,hh⟩
 refine⟨ag,⟨F.below.trans ⟨rfl,rfl,rfl,by simp[World.setRow],λk Y=>o5 w b _ new (by omega),λ_=>ec _⟩,⟨λB o u N=>?_,λB aj N=>?_,λB U=>(o5 w b _ new (λe=>by subst e;exact F.sat.l5 aw (by simp) U)).trans (F.sat.df B U),F.sat.dK⟩,F.ext,λj o M=>?_,λi j B aq hi M an ao=>?_⟩⟩
 ·have ad:B≠b:=by rintro rfl;rw[aa.1]at N;cases N
  exact(ma (w:=w) (a:=⟨B,o,none⟩) (o5 w b _ new ad)).trans (F.sat.cell B o u N)
 ·have ad:B≠b:=by rintro rfl;rw[aa.2]at N;cases N
  have hh:=F.sat.mp B aj N;exact dR.to (o5 w b _ new ad) hh
 ·by_cases ab:j=id
  ·subst ab;rw[e0,if_pos rfl,if_pos ae]at M;injection M with M;subst M;rw[Z];exact⟨xs,au,av,ar,λB O=>by injection O with O;subst O;exact aa⟩
  rw[e0,if_neg (hU ab)]at M;by_cases U:o=.dead
  ·subst U;trivial
  refine(F.obj j o M).cF ag (λB O=>o5 w b _ new ?_) (λ_ _=>⟨rfl,rfl⟩) (.set (λB u ah=>o5 w b _ new (λe=>by subst e;rw[aa.1]at ah;cases ah)) (λh=>by cases h));rintro rfl;exact F.sep j id B ab (bN.2 ⟨o,M,U⟩) (bN.2 ⟨_,G,by simp⟩) O (by rw[Z];rfl)
 refine F.sep i j B aq ?_ ?_ an ao
 ·unfold alive at hi⊢;rwa [lY (o':=.row e size els') G rfl,lW (o':=.row e size els') G rfl]at hi
 unfold alive at M⊢;rwa [lY (o':=.row e size els') G rfl,lW (o':=.row e size els') G rfl]at M
theorem abe(av:ct P V.E)(al:aJ w0 I0 w I m l){id k:Nat}{ty e size:Nat}{els:List D}{x:D}{v:Value}{a:Addr}(aa:l[id]?=some (.row e size els))(aw:az I m l (.pointer (some a)) (.bx id k 0))(aO:Rd I v x)(U:x.cells.length=size)(au:x.cells.all D.one=true)(ag:k<els.length)(ai:x.cells.length=bJ V.E ty)(aU:0<x.cells.length) :
  ∃w',(Instr.storeAt ty (.pointer (some a)) v).run P w=.ok () w'/\Le I m l I m (l.set id (.row e size (els.set k x)))/\aJ w0 I0 w' I m (l.set id (.row e size (els.set k x))):=by
 obtain⟨b,n,c,ah,ax⟩:∃b n c,m id=.slice (some ⟨b,0,none⟩) n c/\a=⟨b,k*size+0,none⟩:=by
  cases aw with
  |bx _ _ _ _ aq O=>exact O e size els (.inl aa)
 subst ax;obtain⟨xs,an,ab,ao,aV⟩:=al.obj id _ aa;rw[ah]at an;obtain⟨aP,aB⟩:=an;rcases aB with ⟨hv,_⟩| ⟨g,aS,cur,hv,ay,Y,aj,aA,ad,aK⟩
 ·cases hv
 injection hv with N aM aN;injection N with N;injection N with N;subst N;subst aM;subst aN;have ht:∀ds,x ≠ .aL ds:=λds e=>by subst e;simp[D.cells,D.one]at au
 obtain⟨aq,O,ar⟩:=aO.cells ht;have aG:∀u∈v.cells.toList,u.oneCell'=true:=by
  intro u B;obtain⟨i,hi,rfl⟩:=hF.1 B;have ae:i<x.cells.length:=by simp at hi;omega
  exact(ar i _ x.cells[i] (by rw[<-j4];exact c5 hi) (c5 ae)).one (O _ (ie ae))
 have M:v.cells.toList.length=size:=by simp[aq,U]
 have aC:k*size+size<=els.length*size:=by
  have:(k+1)*size<=els.length*size:=la _ ag;rw[B1]at this;exact this
 have aD:els.length*size<=cur.size:=by rw[ad];exact la _ aj
 have aH:(sizeOf ty).run P w=.ok v.cells.size w:=by
  cases hi:V.E ty with
  |none=>simp only[bJ,hi,Option.map_none,Option.getD_none]at ai;omega
  |some i=>
   rw[mQ av hi w];simp only[bJ,hi,Option.map_some,Option.getD_some]at ai;congr 1;omega
 have aI:=v8 P b (k*size) e v.cells.toList 0 cur w Y (by rw[M];omega) aG;refine⟨_,by simp only[Instr.storeAt,Instr.sureAddr,e8,Sem.run_pure,Result.andThen_ok,storeVar,aH,ne_eq,ih,h9,Nat.add_zero];exact aI,?_⟩;simp only[Nat.add_zero,M];generalize aE:(cur.toList.take (k*size)++v.cells.toList++cur.toList.drop (k*size+size)).toArray=new;have ak:new.toList=cur.toList.take (k*size)++v.cells.toList++cur.toList.drop (k*size+size):=by subst aE;simp
 have aF:new.size=cur.size:=by
  rw[<-Array.length_toList,ak];simp only[dT,fb,q3,Array.length_toList,M]at *;omega
 have aQ:new.toList.take (els.length*size)=xs.take (k*size)++v.cells.toList++xs.drop (k*size+size):=by
  rw[ak,<-aK];exact Ij _ _ _ _ _ aC (by rw[Array.length_toList];exact aD) M
 refine al.C0 (n:=els.length) (c:=c) (cur:=cur) (xs:=xs.take (k*size)++v.cells.toList++xs.drop (k*size+size)) aa ah Y ⟨?_,.inr ⟨b,c,new,?_,ay,K1 w b cur new e (0,0) Y,?_,aA,by rw[aF,ad],?_⟩⟩ ?_ ?_
 ·simp only[dT,fb,q3,aP,M,o0];omega
 ·simp
 ·simpa using aj
 ·rw[o0];exact aQ
 ·intro d G;rcases List.mem_or_eq_of_mem_set G with G|rfl
  ·exact ab d G
  exact⟨U,O⟩
 intro j u y B F;rw[EH els k x (λd G=>(ab d G).1) ag]at F;have aT:(flat els).length=els.length*size:=iC els (λd G=>(ab d G).1);rw[h7,hC]at B F;have l1:(xs.take (k*size)).length=k*size:=by rw[fb];omega
 have aR:((flat els).take (k*size)).length=k*size:=by rw[fb];omega
 rw[l1]at B;rw[aR]at F;by_cases Z:j<k*size
 ·rw[if_pos Z]at B F;rw[hQ,if_pos Z]at B F;exact ao j u y B F
 rw[if_neg Z]at B F;rw[hC]at B F;rw[M]at B;rw[U]at F;by_cases af:j-k*size<size
 ·rw[if_pos af]at B F;exact ar _ u y (by simpa using B) F
 rw[if_neg af]at B F;rw[kd]at B F;exact ao _ u y B F
def WL{size:Nat}{els:List D}(G:∀d∈els,d.cells.length=size){k off:Nat}{d:D}(F:els[k]?=some d){X:List D}(Y:off+X.length<=size) :
  (flat els).take (k*size)++(d.cells.take off++X++d.cells.drop (off+X.length))++(flat els).drop (k*size+size)=(flat els).take (k*size+off)++X++(flat els).drop (k*size+(off+X.length)):=by
 have B:=G d (dd F);obtain⟨M,rfl⟩:=db.1 F;have e:flat els=flat (els.take k)++(els[k].cells++flat (els.drop (k+1))):=by
  conv=>lhs;rw[<-mx k els]
  unfold flat;rw[s5,hS M,hL]
 have j:(flat (els.take k)).length=k*size:=by rw[iC (els.take k) (λd B=>G d (n4 B)),fb];congr 1;omega
 rw[e];have N:(flat (els.take k)++(els[k].cells++flat (els.drop (k+1)))).take (k*size)=flat (els.take k):=by rw[<-j];simp
 have t2:(flat (els.take k)++(els[k].cells++flat (els.drop (k+1)))).drop (k*size+size)=flat (els.drop (k+1)):=by rw[<-j,<-B];simp
 have O:(flat (els.take k)++(els[k].cells++flat (els.drop (k+1)))).take (k*size+off)=flat (els.take k)++els[k].cells.take off:=by
  rw[<-j,List.take_append,j5 (by omega),vy,J1 (by omega)]
 have U:(flat (els.take k)++(els[k].cells++flat (els.drop (k+1)))).drop (k*size+(off+X.length))=els[k].cells.drop (off+X.length)++flat (els.drop (k+1)):=by
  rw[<-j,za,mb (by omega),vy,List.drop_append_of_le_length (by omega),List.nil_append]
 rw[N,t2,O,U];simp
theorem O9(ax:ct P V.E)(ao:aJ w0 I0 w I m l){id k off:Nat}{ty e size:Nat}{els cs:List D}{x:D}{v:Value}{a:Addr}(ae:l[id]?=some (.row e size els))(ay:az I m l (.pointer (some a)) (.bx id k off))(aR:Rd I v x)(O:els[k]?=some (.agg cs))(aH:off+x.cells.length<=size)(aw:x.cells.all D.one=true)(ai:k<els.length)(ak:x.cells.length=bJ V.E ty)(aZ:0<x.cells.length) :
  ∃w',(Instr.storeAt ty (.pointer (some a)) v).run P w=.ok () w'/\Le I m l I m (l.set id (.row e size (els.set k (.agg (setAt cs off x.cells)))))/\aJ w0 I0 w' I m (l.set id (.row e size (els.set k (.agg (setAt cs off x.cells))))):=by
 obtain⟨b,n,c,aj,aA⟩:∃b n c,m id=.slice (some ⟨b,0,none⟩) n c/\a=⟨b,k*size+off,none⟩:=by
  cases ay with
  |bx _ _ _ _ au Z=>exact Z e size els (.inl ae)
 subst aA;obtain⟨xs,aq,Y,ar,a1⟩:=ao.obj id _ ae;rw[aj]at aq;obtain⟨aS,aD⟩:=aq;rcases aD with ⟨hv,_⟩| ⟨g,aV,cur,hv,aB,ab,al,aC,af,aO⟩
 ·cases hv
 injection hv with N aP aQ;injection N with N;injection N with N;subst N;subst aP;subst aQ;have ht:∀ds,x ≠ .aL ds:=λds e=>by subst e;simp[D.cells,D.one]at aw
 obtain⟨au,Z,av⟩:=aR.cells ht;have aI:∀u∈v.cells.toList,u.oneCell'=true:=by
  intro u B;obtain⟨i,hi,rfl⟩:=hF.1 B;have ag:i<x.cells.length:=by simp at hi;omega
  exact(av i _ x.cells[i] (by rw[<-j4];exact c5 hi) (c5 ag)).one (Z _ (ie ag))
 obtain⟨F,aa⟩:∃F,F=x.cells.length:=⟨_,rfl⟩;have G:v.cells.toList.length=F:=by simp[au,aa]
 have aY:k*size+size<=els.length*size:=by
  have:(k+1)*size<=els.length*size:=la _ ai;rw[B1]at this;exact this
 have aE:els.length*size<=cur.size:=by rw[af];exact la _ al
 have aK:(sizeOf ty).run P w=.ok v.cells.size w:=by
  cases hi:V.E ty with
  |none=>simp only[bJ,hi,Option.map_none,Option.getD_none]at ak;omega
  |some i=>
   rw[mQ ax hi w];simp only[bJ,hi,Option.map_some,Option.getD_some]at ak;congr 1;omega
 have aN:=v8 P b (k*size+off) e v.cells.toList 0 cur w ab (by rw[G];omega) aI;refine⟨_,by simp only[Instr.storeAt,Instr.sureAddr,e8,Sem.run_pure,Result.andThen_ok,storeVar,aK,ne_eq,ih,h9,Nat.add_zero];exact aN,?_⟩;simp only[Nat.add_zero,G];generalize aF:(cur.toList.take (k*size+off)++v.cells.toList++cur.toList.drop (k*size+off+F)).toArray=new;have an:new.toList=cur.toList.take (k*size+off)++v.cells.toList++cur.toList.drop (k*size+off+F):=by subst aF;simp
 have aG:new.size=cur.size:=by
  rw[<-Array.length_toList,an];simp only[dT,fb,q3,Array.length_toList,G]at *;omega
 have aT:new.toList.take (els.length*size)=xs.take (k*size+off)++v.cells.toList++xs.drop (k*size+off+F):=by
  rw[an,<-aO];exact Ij _ _ _ _ _ (by omega) (by rw[Array.length_toList];exact aE) G
 have U:∀d∈els,d.cells.length=size:=λd M=>(Y d M).1;have aW:cs.length=size:=U (.agg cs) (dd O);have aM:(setAt cs off x.cells).length=size:=by unfold setAt;simp;omega
 refine ao.C0 (n:=els.length) (c:=c) (cur:=cur) (xs:=xs.take (k*size+off)++v.cells.toList++xs.drop (k*size+off+F)) ae aj ab ⟨?_,.inr ⟨b,c,new,?_,aB,K1 w b cur new e (0,0) ab,?_,aC,by rw[aG,af],?_⟩⟩ ?_ ?_
 ·simp only[dT,fb,q3,aS,G,o0];omega
 ·simp
 ·simpa using al
 ·rw[o0];exact aT
 ·intro d M;rcases List.mem_or_eq_of_mem_set M with M|rfl
  ·exact Y d M
  refine⟨aM,λy hy=>?_⟩;have hy:y∈setAt cs off x.cells:=hy;unfold setAt at hy;rcases hD.1 hy with hy|hy
  ·rcases hD.1 hy with hy|hy
   ·exact(Y _ (dd O)).2 y (n4 hy)
   exact Z y hy
  exact(Y _ (dd O)).2 y (sa hy)
 intro j u y B hy;rw[EH els k _ U ai]at hy;have hy:((flat els).take (k*size)++(cs.take off++x.cells++cs.drop (off+x.cells.length))++(flat els).drop (k*size+size))[j]?=some y:=by
  simpa [D.cells,setAt]using hy
 rw[show cs=(D.agg cs).cells from rfl,WL U O aH]at hy;rw[r0]at B;rw[<-aa]at hy;have aX:(flat els).length=els.length*size:=iC els U;rw[h7,hC]at B hy;have l1:(xs.take (k*size+off)).length=k*size+off:=by rw[fb];omega
 have aU:((flat els).take (k*size+off)).length=k*size+off:=by rw[fb];omega
 rw[l1]at B;rw[aU]at hy;by_cases ad:j<k*size+off
 ·rw[if_pos ad]at B hy;rw[hQ,if_pos ad]at B hy;exact ar j u y B hy
 rw[if_neg ad]at B hy;rw[hC]at B hy;rw[G]at B;rw[<-aa]at hy;by_cases ah:j-(k*size+off)<F
 ·rw[if_pos ah]at B hy;exact av _ u y (by simpa using B) hy
 rw[if_neg ah]at B hy;rw[kd]at B hy;exact ar _ u y B hy
end
def Cells(I:aD)(vs:List Value)(ds:List D):Prop:=vs.length=ds.length/\(∀d∈ds,d.one=true)/\∀(i:Nat) v d,vs[i]?=some v->ds[i]?=some d->Rd I v d
def pO(I:aD)(m:Nat->Value)(L:List AO)(vs:List Value)(ts:List T):Prop:=vs.length=ts.length/\(∀v∈vs,v.oneCell'=true)/\∀(i:Nat) v t,vs[i]?=some v->ts[i]?=some t->az I m L v t
theorem pO.set{I:aD}{m:Nat->Value}{L:List AO}{vs xs:List Value}{ds ys:List T}{off:Nat}(h:pO I m L vs ds)(k:pO I m L xs ys)(Y:off+ys.length<=ds.length) :
  pO I m L (vs.take off++xs++vs.drop (off+xs.length)) (setAt ds off ys):=by
 obtain⟨U,j,B⟩:=h;obtain⟨G,M,N⟩:=k;refine⟨by simp[setAt];omega,λd hd=>?_,λi v d hv hd=>?_⟩
 ·simp only[hD]at hd;rcases hd with (hd|hd)|hd
  ·exact j d (n4 hd)
  ·exact M d hd
  exact j d (sa hd)
 have l1:(vs.take off).length=off:=by simp;omega
 have O:(ds.take off).length=off:=by simp;omega
 rw[h7,hC,l1]at hv;rw[setAt,h7,hC,O]at hd;by_cases hi:i<off
 ·rw[if_pos hi,hQ,if_pos hi]at hv hd;exact B i v d hv hd
 rw[if_neg hi,hC]at hv hd;rw[G]at hv;by_cases F:i-off<ys.length
 ·rw[if_pos F]at hv hd;exact N _ v d hv hd
 rw[if_neg F,kd]at hv hd;exact B _ v d hv hd
section
variable {P:Program}{V:Env}{w0 w:World}{I0 I:aD}{m:Nat->Value}{l L:List AO}{nid:Nat}{o:Oper}{ρ:Operand->Value}{ρT:Operand->T}
def aaY{v:Value}{d:D}(h:Rd I v d)(j:d.cells.all D.one=true):Cells I v.cells.toList d.cells:=by
 have ht:∀ds,d ≠ .aL ds:=λds e=>by subst e;simp[D.cells,D.one]at j
 obtain⟨F,G,M⟩:=h.cells ht;exact⟨by simpa using F,G,λi u x k B=>M i u x (by simpa using k) B⟩
theorem fJ(G:Nat->Option (Nat×Nat)):∀(parts:List (Nat×Operand))(cells:Array Value)(ds j:List T),pO I m L cells.toList ds->(∀p∈parts,az I m L (ρ p.2) (ρT p.2)) ->
  oL G ds (parts.map λp=>(p.1,ρT p.2))=some j->∃F,Instr.fill G cells (parts.map λp=>(p.1,ρ p.2))=some F/\pO I m L F.toList j
 | [],cells,ds,j,B,_,h=>by
  simp[oL]at h;subst h;exact⟨cells,rfl,B⟩
 |p::parts,cells,ds,j,B,Y,h=>by
  simp only[e7,oL]at h;cases N:G p.1 with
  |none=>simp[N]at h
  |some al=>
    obtain⟨off,size⟩:=al;simp only[N]at h;split at h
    ·rename_i ah;obtain⟨Z,aa,ab⟩:=KB (Y p (by simp)) ah.2.2;have U:pO I m L (ρ p.2).cells.toList (bB (ρT p.2)):=⟨Z,aa,ab⟩;have ak:(ρ p.2).cells.size=size:=by have:=U.1;simp at this;omega
     have ao:off+(ρ p.2).cells.size<=cells.size:=by have:=B.1;simp at this;omega
     obtain⟨an,ad⟩:=Great.foldl_set off (ρ p.2).cells.toList 0 cells;generalize af:((ρ p.2).cells.toList.zipIdx 0).foldl (λcs(x:Value×Nat)=>cs.setIfInBounds (off+x.2) x.1) cells=cs at *;have ai:cs.toList=cells.toList.take off++(ρ p.2).cells.toList++cells.toList.drop (off+(ρ p.2).cells.toList.length):=by
      apply hX;intro k;have:=ad k;rw[j4,this];have l1:(cells.toList.take off).length=off:=by simp;omega
      rw[h7,hC,l1,hC];simp only[Nat.add_zero,Array.length_toList];by_cases M:k<off
      ·rw[if_neg (by omega),if_pos M,hQ,if_pos M];simp
      rw[if_neg M];by_cases O:k-off<(ρ p.2).cells.size
      ·rw[if_pos (by omega),if_pos O]
      rw[if_neg (by omega),if_neg O,kd];rw[show off+(ρ p.2).cells.size+(k-off-(ρ p.2).cells.size)=k by omega];simp
     obtain⟨F,ag,ae⟩:=fJ G parts cs (setAt ds off (bB (ρT p.2))) j (by rw[ai];exact B.set U (by have:=B.1;simp at this;omega)) (λq aj=>Y q (by simp[aj])) h;refine⟨F,?_,ae⟩;simp only[e7];unfold Instr.fill;simp only[N];rw[if_neg (by simp[ak];omega),<-ag];congr 1;rw[<-af,<-LB,Array.toList_zipIdx]
    cases h
theorem UE(M:ct P V.E){t:TypeId}{sz af:Nat}{z:List D}{ds:List T}{fs:List (Nat×TypeId)}{parts:Array (Nat×Operand)}(ae:V.E t=some ⟨sz,af,z,.struct fs⟩)(au:∀p∈parts.toList,az I m L (ρ p.2) (ρT p.2))(an:oL (uZ V.E fs) (z.map lG) (parts.toList.map λp=>(p.1,ρT p.2))=some ds)(aj:∀f∈fs,(V.E f.2).isSome=true) :
  ∃u,(Instr.build t (parts.map λ(i,x)=>(i,ρ x))).run P w=.ok u w/\az I m L u (iF true ds):=by
 obtain⟨ag,av,rfl⟩:=Ix M ae;obtain⟨x,Y,ah,ay,aA,ai,Z,aB,aC,aD⟩:=fq (M t _ ae);have al:pO I m L Y.cells.toList (z.map lG):=by
  obtain⟨B,U,ax⟩:=qQ I _ _ Z;have B:Y.cells.toList.length=z.length:=B;refine⟨by simpa using B,λv hv=>?_,λi v t hv ht=>?_⟩
  ·obtain⟨j,aq,rfl⟩:=hF.1 hv;have ab:j<z.length:=by omega
   exact(ax j _ _ (c5 aq) (c5 ab)).one (U _ (ie ab))
  rw[e3]at ht;cases O:z[i]? with
  |none=>simp[O]at ht
  |some d=>simp[O]at ht;subst ht;exact QT (Dg Z hv O)
 obtain⟨F,ao,N⟩:=fJ (ρ:=ρ) (ρT:=ρT) (m:=m) (L:=L) (uZ V.E _) parts.toList Y.cells _ ds al au an;have ar:∀k:List Field,(∀f∈k.map (λf=>(f.offset,f.type)),(V.E f.2).isSome=true)->k.mapM (λf=>(P.info? f.type).map λi=>(f.offset,i.size))=some (k.map λf=>(f.offset,bJ V.E f.type)):=by
  intro k aa;induction k with
  |nil=>rfl
  |cons f k aw=>
   obtain⟨i,hi⟩:=o6.1 (aa (f.offset,f.type) (by simp));obtain⟨aE,_,B,U,_⟩:=fq (M _ _ hi);have G:(P.info? f.type).map (λi=>(f.offset,i.size))=some (f.offset,bJ V.E f.type):=by
    simp only at hi;simp[B,U,bJ,hi]
   simp only[l2,G,aw (λq ad=>aa q (by simp at ad⊢;exact .inr ad)),e7];rfl
 have ak:P.built t (parts.map λ(i,x)=>(i,ρ x)).toList=some F:=by
  unfold Program.built;simp only[ah,av,ai,ar ag.toList aj];rw[<-ao];have G:(parts.map λ(i,x)=>(i,ρ x)).toList=parts.toList.map λp=>(p.1,ρ p.2):=by simp
  rw[G];congr 1;funext i;simp only[uZ,zx,e3,Option.map_map];rfl
 refine⟨_,run_build w t _ _ ak,?_⟩;have:=No (I:=I) (m:=m) (L:=L) (i:=⟨F.size,0,[],.struct []⟩) (vs:=F.toList) (ts:=ds) N.1 (by simp) (by simp[TD.agg]) (λj v t hv ht=>⟨N.2.2 j v t hv ht,N.2.1 v (dd hv)⟩);simpa [TD.agg]using this
def aJ.known(F:aJ w0 I0 w I m L)(e:TypeId)(cs:Array Value)(size:Nat)(ds:List D)(n:Nat)(U:ds.length=n)(aa:∀d∈ds,d.cells.length=size/\∀x∈d.cells,x.one=true)(ak:cs.size=n*size)(af:n<=maxLen)(ag:∀(j:Nat) x y,cs[j]?=some x->(flat ds)[j]?=some y->Rd I x y) :
  ∃J,Le I m L J m L/\aJ w0 I0 (w.alloc (.cells cs e)) J m L/\Rd J (.slice (some ⟨w.heap.size,0,none⟩) n n) (.slice size ds):=by
 have Y:=F.sat.dX (ec w.heap.size);let J:=I.dz w.heap.size cs.toList;have O:I.le J:=⟨λb o v B=>by
  have G:b≠w.heap.size:=by rintro rfl;rw[Y.1 o]at B;cases B
  simp[J,aD.dz,G,B],λ_ _ h=>h,λ_ h=>h⟩
 have Z:∀b,b≠w.heap.size->J.cell b=I.cell b:=λb G=>by funext o;simp[J,aD.dz,G]
 have ah:cZ (w.alloc (.cells cs e)) J:=⟨λb o v B=>by
  by_cases G:b=w.heap.size
  ·subst G;simp only[J,aD.dz,hK]at B;rw[World.cell?_alloc_new];cases M:cs[o]? with
   |none=>simp[M,Y.1 o]at B
   |some x=>simpa [M]using B
  ·rw[Z b G]at B;rw[tx w _ _ (F.sat.lt B)];exact F.sat.cell b o v B,λb ab B=>by
  have ad:=F.sat.mp b ab B;exact dR.to (Below.heap_alloc w _ b (F.sat.nM B)) ad,λb N=>(Below.heap_alloc w _ b (F.sat.kW N)).trans (F.sat.df b N),λg d h=>(F.sat.dK g d h).mono O⟩
 obtain⟨ai,aj⟩:=F.call (dq.alloc (dq.refl _ _) (ec _) _) (.of O (λb G=>Z b (by omega)) (λ_ _=>rfl)) ah;refine⟨J,aj,ai,.slice _ 0 n n size ds (λk=>(cs[k]?).getD undef) U (ec _) af aa (λk ae=>?_) (λk x M=>?_)⟩
 ·have:cs[k]?=some (cs[k]'(by omega)):=e5 (by omega);simp[J,aD.dz,this]
 have ae:k<n*size:=by rw[<-U,<-iC ds (λd N=>(aa d N).1)];exact(db.1 M).1
 have:cs[k]?=some (cs[k]'(by omega)):=e5 (by omega);rw[this];exact(ag k _ x this M).mono O
theorem Nb:∀(ps:List (Nat×Operand))(ds:List D),(∀p∈ps,az I m L (ρ p.2) (ρT p.2))->ps.mapM (λp=>iw (ρT p.2))=some ds->ps.length=ds.length/\∀(i:Nat) p d,ps[i]?=some p->ds[i]?=some d->Rd I (ρ p.2) d
 | [],ds,_,h=>by simp at h;subst h;simp
 |p::ps,ds,B,h=>by
  simp only[l2,Option.bind_eq_bind,k6,Option.pure_def,c4]at h;obtain⟨x,M,xs,N,rfl⟩:=h;obtain⟨F,G⟩:=Nb ps xs (λq j=>B q (by simp[j])) N;refine⟨by simp[F],λi q d j k=>?_⟩;rcases i with _|i
  ·simp at j k;subst j;subst k;exact CB (B p (by simp)) M
  simp at j k;exact G i q d j k
theorem Kr(Z:ct P V.E)(aw:aJ w0 I0 w I m L){t e:TypeId}{sz al:Nat}{z:List D}{len:Nat}{parts:Array (Nat×Operand)}{ds:List D}(aB:V.E t=some ⟨sz,al,z,.slice e⟩)(aR:parts.toList.length=ds.length)(aG:∀(i:Nat) p d,parts.toList[i]?=some p->ds[i]?=some d->Rd I (ρ p.2) d)(ae:(V.E e).isSome=true/\0<bJ V.E e)(au:len≠0)(an:parts.toList.map (·.1)=List.range len/\len*bJ V.E e<=16777216/\ds.all (λd=>d.cells.length == bJ V.E e&&d.cells.all D.one)=true) :
  ∃w' J,(Instr.buildSlice t len (parts.map λ(i,x)=>(i,ρ x))).run P w=.ok (.slice (some ⟨w.heap.size,0,none⟩) len len) w'/\Le I m L J m L/\aJ w0 I0 w' J m L/\Rd J (.slice (some ⟨w.heap.size,0,none⟩) len len) (.slice (bJ V.E e) ds):=by
 have F:=mW Z aB;obtain⟨aa,ao,ab⟩:=an;obtain⟨i,hi⟩:=o6.1 ae.1;obtain⟨x,Y,aE,U,aM,aF,aN,aO,aP,aQ⟩:=fq (Z e i hi);have aj:bJ V.E e=i.size:=by simp[bJ,hi]
 rw[aj]at ao ab⊢;have M:0<i.size:=by rw[<-aj];exact ae.2
 have O:parts.toList.length=len:=by have:=dn List.length aa;simpa using this
 have aq:ds.length=len:=by omega
 have G:∀d∈ds,d.cells.length=i.size/\∀y∈d.cells,y.one=true:=λd k=>by
  have:=ek.1 ab d k;simp only[dk,r4,ek]at this;exact this
 have ad:∀(j:Nat) p d,parts.toList[j]?=some p->ds[j]?=some d->Cells I (ρ p.2).cells.toList d.cells:=λj p d B k=>
  aaY (aG j p d B k) (ek.2 (G d (dd k)).2)
 have aC:∀v∈parts.toList.map (λp=>ρ p.2),v.cells.size=i.size:=by
  intro v hv;obtain⟨p,B,rfl⟩:=gg.1 hv;obtain⟨j,N,rfl⟩:=hF.1 B;have ag:j<ds.length:=by omega
  have:=(ad j _ _ (c5 N) (c5 ag)).1;have aK:=(G _ (ie ag)).1;rw[Array.length_toList]at this;omega
 obtain⟨r,ar,az,ay⟩:=Great.fill_dense M (parts.toList.map λp=>ρ p.2) 0 ((Array.range (len*i.size)).map (Y.cells[· % Y.cells.size]!)) aC (by simp[O]);have aD:(parts.map λ(i,x)=>(i,ρ x)).toList=((parts.toList.map λp=>ρ p.2).zipIdx 0).map λx=>(x.2,x.1):=by
  apply hX;intro j;simp only[Array.toList_map,e3,List.getElem?_zipIdx,hT,Option.map_map];cases B:parts.toList[j]? with
  |none=>simp
  |some p=>
   have N:j<len:=by rw[<-O];exact(db.1 B).1
   have:(parts.toList.map (·.1))[j]?=some p.1:=by rw[e3,B];rfl
   rw[aa,ia N]at this;injection this with this;simp[this]
 have aA:=run_buildSlice (P:=P) w t e len (parts.map λ(i,x)=>(i,ρ x)) r x Y F aE aF (by rw[U];omega) (by rw[U];have:=adY (Nat.pos_of_ne_zero au) M;omega) (by rw[aD,U];exact ar);have ai:r.size=len*i.size:=by rw[az];simp
 obtain⟨J,aI,aH,av⟩:=aw.known e r i.size ds len aq G ai (by unfold maxLen;have:len<=len*i.size:=Nat.le_mul_of_pos_right _ M;omega) (λj u y F ak=>by
  have ah:j<len*i.size:=by rw[<-ai];exact(e6.1 F).1
  rw[ay j,if_pos (by simp[O];exact ah)]at F;simp only[Nat.sub_zero,e3]at F;have aL:j/i.size<len:=Nat.div_lt_of_lt_mul (by rw[o7];exact ah);have ax:j%i.size<i.size:=q6 _ M;have B:parts.toList[j/i.size]?=some (parts.toList[j/i.size]'(by omega)):=c5 (by omega);have k:ds[j/i.size]?=some (ds[j/i.size]'(by omega)):=c5 (by omega);rw[B]at F;have af:=flat_get ds (λd k=>(G d k).1) (j/i.size) (j%i.size) _ k ax;rw[o7,Ds]at af;rw[af]at ak;exact(ad _ _ _ B k).2.2 (j%i.size) u y (by simpa using F) ak)
 exact⟨_,J,aA,aI,aH,av⟩
theorem aJ.Cs(F:aJ w0 I0 w I m l){w':World}{e size:Nat}{els:List D}{v:Value}{row:Option Nat}{lo:List AO}(aK:lo.length=l.length)(Y:∀(k:Nat) a,lo[k]?=some a->a=.dead\/l[k]?=some a)(aS:∀(k:Nat) a,a.isVar=true->l[k]?=some a->lo[k]?=some a)(N:w.grownBy w' row)(aH:w.drawn<=w'.drawn)(af:∀b,row=some b->w0.heap.size<=b/\I.dX b/\∀k,alive lo k=true->own (m k)≠some b)(aL:∀b,row=some b->¬I.df b)(al:∀b,own v=some b->w0.heap.size<=b/\I.dX b/\∀k,alive lo k=true->own (m k)≠some b){xs:List Value}(aO:w'.ownsRow w0.heap.size e size v els.length xs)(aP:∀d∈els,d.cells.length=size/\∀x∈d.cells,x.one=true)(aN:∀(j:Nat) x y,xs[j]?=some x->(flat els)[j]?=some y->Rd I x y)(aR:∃A n c,v=.slice A n c) :
  Le I m l I (aQ m l.length v) (lo++[.row e size els])/\aJ w0 I0 w' I (aQ m l.length v) (lo++[.row e size els])/\az I (aQ m l.length v) (lo++[.row e size els]) v (.row l.length):=by
 have ag:∀k,k<l.length->(lo++[AO.row e size els])[k]?=lo[k]?:=λk av=>e1 (by omega);have aI:(lo++[AO.row e size els])[l.length]?=some (.row e size els):=by rw[<-aK];simp
 have ax:Le I m l I (aQ m l.length v) (lo++[.row e size els]):=by
  refine⟨.refl I,by simp;omega,λid aa hv=>⟨?_,bU m v (by omega)⟩,λid aa ae=>⟨?_,bU m v (by omega)⟩,λid aV s' els' aa hh=>?_⟩
  ·unfold isVar at hv⊢;rw[ag id aa];cases B:l[id]? with
   |none=>simp[B]at hv
   |some o=>
    have ay:o.isVar=true:=by simpa [B]using hv
    rw[aS id o ay B];exact ay
  ·unfold isRow at ae⊢;rw[ag id aa]at ae;cases B:lo[id]? with
   |none=>simp[B]at ae
   |some o=>
    rcases Y id o B with rfl|h
    ·simp[B,AO.isRow]at ae
    rw[h];rw[B]at ae;exact ae
  rw[ag id aa]at hh;rcases hh with hh|hh
  ·rcases Y id _ hh with h|h
   ·cases h
   exact⟨els',.inl h⟩
  rcases Y id _ hh with h|h
  ·cases h
  exact⟨els',.inr h⟩
 have aG:∀k a,lo[k]?=some a->a ≠ .dead->∀b,own (m k)=some b->w'.heap[b]?=w.heap[b]?:=by
  intro k a ai G b Z;have aF:l[k]?=some a:=(Y k a ai).resolve_left G;refine N.block b ((F.obj k a aF).lt G Z).1 (λM=>?_);exact(af b M.symm).2.2 k (bN.2 ⟨a,ai,G⟩) Z
 refine⟨ax,⟨F.below.trans ⟨N.os,N.tape,N.output,N.size,λk av=>N.block k (by have:=F.below.size;omega) (λM=>by have:=(af k M.symm).1;omega),λ_=>aH⟩,⟨λb o u U=>?_,λb aE U=>?_,λb G=>(N.block b (F.sat.kW G) (λM=>aL b M.symm G)).trans (F.sat.df b G),F.sat.dK⟩,F.ext,λid o B=>?_,λi j b ah hi au ab ad=>?_⟩,?_⟩
 ·have an:some b≠row:=λM=>by rw[(af b M.symm).2.1.1 o]at U;cases U
  exact(ma (w:=w) (a:=⟨b,o,none⟩) (N.block b (F.sat.lt U) an)).trans (F.sat.cell b o u U)
 ·have an:some b≠row:=λM=>by rw[(af b M.symm).2.1.2]at U;cases U
  have hh:=F.sat.mp b aE U;exact dR.to (N.block b (F.sat.nM U) an) hh
 ·by_cases aa:id<l.length
  ·rw[ag id aa]at B;rw[bU m v (by omega)];by_cases G:o=.dead
   ·subst G;trivial
   exact(F.obj id o ((Y id o B).resolve_left G)).cF ax (aG id o B G) (λ_ _=>⟨rfl,rfl⟩) ⟨λb u ao _=>⟨N.block b (F.sat.lt ao) (λM=>by rw[(af b M.symm).2.1.1 0]at ao;cases ao),rfl,rfl⟩,λq b aM Z=>(ub aM).elim (λh=>.inl ⟨q,(by
    have O:=h.2;unfold cA at O⊢;cases hl:lo[q]? with
    |none=>simp[hl]at O
    |some a=>
     rcases Y q a hl with rfl|h'
     ·simp[hl,AO.cA]at O
     rw[hl]at O;rw[h'];exact O),by rw[bU m v (by have:=h.1;omega)]at Z;exact Z⟩) λh=>by cases h.2⟩
  have:id=l.length:=by
   have:=(db.1 B).1;simp at this;omega
  subst this;rw[aI]at B;injection B with B;subst B;rw[dH];exact⟨xs,aO,aP,aN,λb Z=>(al b Z).2.1⟩
 ·have aj:∀k,k≠l.length->alive (lo++[AO.row e size els]) k=true->alive lo k=true/\k<l.length:=by
   intro k av ai;obtain⟨o,B,G⟩:=bN.1 ai;have aw:k<l.length:=by have:=(db.1 B).1;simp at this;omega
   rw[ag k aw]at B;exact⟨bN.2 ⟨o,B,G⟩,aw⟩
  by_cases ak:i=l.length
  ·subst ak;rw[dH]at ab;rw[bU m v (hU ah)]at ad;exact(al b ab).2.2 j (aj j (hU ah) au).1 ad
  by_cases O:j=l.length
  ·subst O;rw[dH]at ad;rw[bU m v ah]at ab;exact(al b ad).2.2 i (aj i ah hi).1 ab
  rw[bU m v ak]at ab;rw[bU m v O]at ad;have aC:=(aj i ak hi).1;have aD:=(aj j O au).1;obtain⟨aA,aT,aq⟩:=bN.1 aC;obtain⟨aB,aU,ar⟩:=bN.1 aD;exact F.sep i j b ah (bN.2 ⟨aA,(Y i aA aT).resolve_left aq,aq⟩) (bN.2 ⟨aB,(Y j aB aU).resolve_left ar,ar⟩) ab ad
 obtain⟨A,n,c,rfl⟩:=aR;exact .row A n c _ (by simp;omega) (λ_=>dH m _ _)
theorem aJ.ZK(M:aJ w0 I0 w I m l){w':World}{e size:Nat}{els:List D}{v:Value}{row:Option Nat}{lo:List AO}(aA:lo.length=l.length)(U:∀(k:Nat) a,lo[k]?=some a->a=.dead\/l[k]?=some a)(aS:∀(k:Nat) a,a.isVar=true->l[k]?=some a->lo[k]?=some a)(Y:w.grownBy w' row)(aM:w.drawn<=w'.drawn)(au:∀b,row=some b->w0.heap.size<=b/\∀k,alive lo k=true->own (m k)≠some b)(aC:∀b,row=some b\/own v=some b->I.cell b 0=none\/∃q,cA l q=true/\own (m q)=some b){J:aD}(ah:I.le J)(ak:∀b,own v≠some b->J.cell b=I.cell b/\J.mp b=I.mp b)(aP:cZ w' J)(ae:∀b,own v=some b->w0.heap.size<=b/\∀k,alive lo k=true->own (m k)≠some b)(aO:dZ w0.heap.size w' J (aQ m l.length v) (lo++[.bn e size els]) v (.bn e size els))(aR:∃A n c,v=.slice A n c) :
  Le I m l J (aQ m l.length v) (lo++[.bn e size els])/\aJ w0 I0 w' J (aQ m l.length v) (lo++[.bn e size els])/\az J (aQ m l.length v) (lo++[.bn e size els]) v (.row l.length):=by
 have af:∀k,k<l.length->(lo++[AO.bn e size els])[k]?=lo[k]?:=λk aw=>e1 (by omega);have aN:(lo++[AO.bn e size els])[l.length]?=some (.bn e size els):=by rw[<-aA];simp
 have ay:Le I m l J (aQ m l.length v) (lo++[.bn e size els]):=by
  refine⟨ah,by simp;omega,λid Z hv=>⟨?_,bU m v (by omega)⟩,λid Z ad=>⟨?_,bU m v (by omega)⟩,λid aY s' els' Z hh=>?_⟩
  ·unfold isVar at hv⊢;rw[af id Z];cases B:l[id]? with
   |none=>simp[B]at hv
   |some o=>
    have aE:o.isVar=true:=by simpa [B]using hv
    rw[aS id o aE B];exact aE
  ·unfold isRow at ad⊢;rw[af id Z]at ad;cases B:lo[id]? with
   |none=>simp[B]at ad
   |some o=>
    rcases U id o B with rfl|h
    ·simp[B,AO.isRow]at ad
    rw[h];rw[B]at ad;exact ad
  rw[af id Z]at hh;rcases hh with hh|hh
  ·rcases U id _ hh with h|h
   ·cases h
   exact⟨els',.inl h⟩
  rcases U id _ hh with h|h
  ·cases h
  exact⟨els',.inr h⟩
 have aL:∀k a,lo[k]?=some a->a ≠ .dead->∀b,own (m k)=some b->w'.heap[b]?=w.heap[b]?:=by
  intro k a ai N b F;have aK:l[k]?=some a:=(U k a ai).resolve_left N;refine Y.block b ((M.obj k a aK).lt N F).1 (λG=>?_);exact(au b G.symm).2 k (bN.2 ⟨a,ai,N⟩) F
 refine⟨ay,⟨M.below.trans ⟨Y.os,Y.tape,Y.output,Y.size,λk aw=>Y.block k (by have:=M.below.size;omega) (λG=>by have:=(au k G.symm).1;omega),λ_=>aM⟩,aP,⟨λ_ _ _ x=>ah.cell _ _ _ (M.ext.lc _ _ _ x),λ_ _ x=>ah.mp _ _ (M.ext.lm _ _ x),λb F x=>ah.df b (M.ext.ld b F x),λb F=>?_,λb F=>?_⟩,λid o B=>?_,λi j b ag hi av aa ab=>?_⟩,?_⟩
 ·exact(ak b (λG=>by have:=(ae b G).1;omega)).1.trans (M.ext.cell b F)
 ·exact(ak b (λG=>by have:=(ae b G).1;omega)).2.trans (M.ext.mp b F)
 ·by_cases Z:id<l.length
  ·rw[af id Z]at B;rw[bU m v (by omega)];by_cases N:o=.dead
   ·subst N;trivial
   exact(M.obj id o ((U id o B).resolve_left N)).cF ay (aL id o B N) (λb F=>ak b (λG=>(ae b G).2 id (bN.2 ⟨o,B,N⟩) F)) ⟨λb u ao an=>(by
    have aB:∀{x:Prop},(row=some b\/own v=some b)->x:=λh=>((aC b h).elim (λh=>by rw[h]at ao;cases ao) λh=>absurd h.choose_spec.2 (an _ h.choose_spec.1));exact⟨Y.block b (M.sat.lt ao) (λG=>aB (.inl G.symm)),ak b (λG=>aB (.inr G))⟩),λq b an F=>(ub an).elim (λh=>.inl ⟨q,(by
    have O:=h.2;unfold cA at O⊢;cases hl:lo[q]? with
    |none=>simp[hl]at O
    |some a=>
     rcases U q a hl with rfl|h'
     ·simp[hl,AO.cA]at O
     rw[hl]at O;rw[h'];exact O),by rw[bU m v (by have:=h.1;omega)]at F;exact F⟩) λh=>by
    rw[h.1,aA,dH]at F;exact(aC b (.inr F)).elim .inr λ⟨aV,aT,aU⟩=>.inl ⟨aV,aT,aU⟩⟩
  have:id=l.length:=by
   have:=(db.1 B).1;simp at this;omega
  subst this;rw[aN]at B;injection B with B;subst B;rw[dH];exact aO
 ·have aj:∀k,k≠l.length->alive (lo++[AO.bn e size els]) k=true->alive lo k=true/\k<l.length:=by
   intro k aw ai;obtain⟨o,B,N⟩:=bN.1 ai;have ax:k<l.length:=by have:=(db.1 B).1;simp at this;omega
   rw[af k ax]at B;exact⟨bN.2 ⟨o,B,N⟩,ax⟩
  by_cases al:i=l.length
  ·subst al;rw[dH]at aa;rw[bU m v (hU ag)]at ab;exact(ae b aa).2 j (aj j (hU ag) av).1 ab
  by_cases O:j=l.length
  ·subst O;rw[dH]at ab;rw[bU m v ag]at aa;exact(ae b ab).2 i (aj i ag hi).1 aa
  rw[bU m v al]at aa;rw[bU m v O]at ab;have aH:=(aj i al hi).1;have aI:=(aj j O av).1;obtain⟨aF,aW,aq⟩:=bN.1 aH;obtain⟨aG,aX,ar⟩:=bN.1 aI;exact M.sep i j b ag (bN.2 ⟨aF,(U i aF aW).resolve_left aq,aq⟩) (bN.2 ⟨aG,(U j aG aX).resolve_left ar,ar⟩) aa ab
 obtain⟨A,n,c,rfl⟩:=aR;exact .row A n c _ (by simp;omega) (λ_=>dH m _ _)
end
end Go.ak
