import Derived.Test.YtioaemdeeebgcaaGreatDoorX6
import Derived.LaidEql
import Derived.Stop.Asserts
import Derived.RowKitTokens
import Derived.Shelf.SlGeneric
import Derived.Shelf.SlSortCmp.WholeK
import Derived.Shelf.SlSortCmp.NoneTotal
import Derived.Shelf.SortM.Plain
import Derived.Shelf.SortM.SortNone
import Derived.Ground.SlsfProg
import Derived.Ground.SlgmProg
import Derived.Shelf.Lays
import Derived.Ground.NamesProg
import Derived.Shelf.Strings.FuncGrows
set_option linter.all false
namespace Go.Proofs.YtioaemdeeebgcaaGreatDoor
open Go.RowKit Go.Extern.Stop Go.Stop Go.Extern
namespace Cd
theorem JT(t:Value)(w:World) :
  Calls Tryz.prog 222 #[.nilIface,t] w λe w'=>e=.returned (.bool false)∧w'=w:=by
 go_enter Tryz.func222,Tryz.ntmps222
 go_wp2
 go_ret
 exact⟨rfl,rfl⟩
abbrev hP:Value:=.pointer (some ⟨2,345,none⟩)
abbrev hS:Value:=.pointer (some ⟨2,339,none⟩)
abbrev hE:Value:=.pointer (some ⟨2,257,none⟩)
theorem Up(t:Addr)(w:World):(ReflectliteValue.unpack (.iface 345 (.pointer (some t)))).run Tryz.prog w
  = .ok (.agg #[.pointer (some ⟨2,345,none⟩),.pointer (some ⟨w.heap.size,0,none⟩),.int .u64 150]) (w.alloc (.cells #[.pointer (some t)] 345)):=by kernel_rfl
theorem Uf(a:Addr)(w:World):(ReflectliteValue.methodAny (ReflectliteValue.valueError "reflectlite.Value.Type" 0) (λt _ _ _=>ReflectliteType.toType t) #[.agg #[.pointer (some ⟨2,345,none⟩),.pointer (some a),.int .u64 150]]).run Tryz.prog w
  = .ok (.iface 446 (.agg #[.pointer (some ⟨2,345,none⟩)])) w:=by kernel_rfl
theorem N7(h:Value)(w:World):(Go.method 606 446 (.agg #[h]) "Kind").run Tryz.prog w=.ok (399,h) w:=by kernel_rfl
theorem Nr(w:World):((ReflectliteType.abiMethod λt=>(λa:Nat=>Value.int IntKind.u8 (a:Int)) <$> Rtype.kind t) #[.pointer (some ⟨2,345,none⟩)]).run Tryz.prog w=.ok (.int .u8 22) w:=by kernel_rfl
theorem Ns(w:World):((ReflectliteType.abiMethod λt=>(λa:Nat=>Value.int IntKind.u8 (a:Int)) <$> Rtype.kind t) #[.pointer (some ⟨2,339,none⟩)]).run Tryz.prog w=.ok (.int .u8 25) w:=by kernel_rfl
theorem HY(z:Sem Value)(f:TypeId→Addr→Nat→Nat→Sem Value)(v:Value) :
  ReflectliteValue.method z f #[v]=(do match ←ReflectliteValue.parts v with|none=>z|some (t,a,j)=>f t a j (j%32)):=rfl
theorem DM(a:Addr)(w:World):(ReflectliteValue.parts (.agg #[.pointer (some ⟨2,345,none⟩),.pointer (some a),.int .u64 150])).run Tryz.prog w=.ok (some (345,a,150)) w:=by kernel_rfl
theorem Ni(a p:Addr)(W:World)(j:W.cell? a=some (.pointer (some p))) :
  (ReflectliteValue.method (ReflectliteValue.valueError "reflectlite.Value.IsNil" 0) ReflectliteValue.isNil #[.agg #[.pointer (some ⟨2,345,none⟩),.pointer (some a),.int .u64 150]]).run Tryz.prog W=.ok (.bool false) W:=by
 rw[HY]
 simp only[Sem.run_bind,DM,Result.andThen]
 simp[ReflectliteValue.isNil,loadVar,isAgg,underlying,Tryz.underlying345,j,Result.andThen]
theorem N5(h:Value)(w:World):(Go.method 606 446 (.agg #[h]) "Elem").run Tryz.prog w=.ok (411,.agg #[h]) w:=by kernel_rfl
theorem N4(h:Value)(w:World):(Go.method 606 446 (.agg #[h]) "AssignableTo").run Tryz.prog w=.ok (409,.agg #[h]) w:=by kernel_rfl
theorem LX(w:World):(ReflectliteType.method ReflectliteType.elem #[.agg #[.pointer (some ⟨2,345,none⟩)]]).run Tryz.prog w=.ok (.iface 446 (.agg #[.pointer (some ⟨2,339,none⟩)])) w:=by kernel_rfl
theorem N6(h:Value)(w:World):(Go.method 606 446 (.agg #[h]) "Implements").run Tryz.prog w=.ok (412,.agg #[h]) w:=by kernel_rfl
theorem MZ(w:World):(ReflectliteType.relation "Implements" ReflectliteType.implements_ #[.agg #[.pointer (some ⟨2,339,none⟩)],.iface 446 (.agg #[.pointer (some ⟨2,257,none⟩)])]).run Tryz.prog w=.ok (.bool true) w:=by kernel_rfl
theorem Ue(v:Value)(w:World):(ReflectliteType.typeOf #[.iface 339 v]).run Tryz.prog w=.ok (.iface 446 (.agg #[.pointer (some ⟨2,339,none⟩)])) w:=by kernel_rfl
theorem JU(w:World):(ReflectliteType.relation "AssignableTo" ReflectliteType.assignableTo #[.agg #[.pointer (some ⟨2,339,none⟩)],.iface 446 (.agg #[.pointer (some ⟨2,339,none⟩)])]).run Tryz.prog w=.ok (.bool true) w:=by kernel_rfl
theorem Uq(n:Int)(w:World):(ReflectliteValue.unpack (.iface 339 (.agg #[.int .i64 n]))).run Tryz.prog w
  = .ok (.agg #[.pointer (some ⟨2,339,none⟩),.pointer (some ⟨w.heap.size,0,none⟩),.int .u64 153]) (w.alloc (.cells #[.int .i64 n] 339)):=by kernel_rfl
theorem LW(w:World):(Rtype.elem? 345).run Tryz.prog w=.ok (some 339) w:=by kernel_rfl
theorem Oe(p:Addr)(w:World):(ReflectliteValue.mk 339 p ReflectliteValue.flagAddr).run Tryz.prog w=.ok (.agg #[.pointer (some ⟨2,339,none⟩),.pointer (some p),.int .u64 409]) w:=by kernel_rfl
theorem elemV(a p:Addr)(W:World)(j:W.cell? a=some (.pointer (some p))) :
  (
   ReflectliteValue.method (ReflectliteValue.valueError "reflectlite.Value.Elem" 0) ReflectliteValue.elem #[.agg #[.pointer (some ⟨2,345,none⟩),.pointer (some a),.int .u64 150]]).run Tryz.prog W
   = .ok (.agg #[.pointer (some ⟨2,339,none⟩),.pointer (some p),.int .u64 409]) W:=by
 rw[HY]
 simp only[Sem.run_bind,DM,Result.andThen]
 simp[ReflectliteValue.elem,loadVar,isAgg,underlying,Tryz.underlying345,j,Result.andThen,LW,Oe]
theorem SC(v x:Value):ReflectliteValue.set #[v,x]=(do
  let (some (dst,a,j),some (src,b,_)):=(←ReflectliteValue.parts v,←ReflectliteValue.parts x)
   |unsupported (.noEntry "extern/(internal/reflectlite.Value).Set.zeroValue")
  if j/ReflectliteValue.flagAddr%2 == 0 then unsupported (.noEntry "extern/(internal/reflectlite.Value).Set.unaddressable")
  let val ←loadVar src b
  if ←Rtype.directlyAssignable dst src then storeVar dst a val
  else if ←Rtype.implements dst src then
   if(←Rtype.kind src) == 20 then
    match val with
    |.nilIface=>unsupported (.noEntry "extern/reflectlite: a nil value of one interface type handed on as a value of another")
    |_=>storeVar dst a val
   else storeVar dst a (.iface src val)
  else panicString ("reflectlite.Set: value of type " ++ (←Rtype.spelt src) ++ " is not assignable to type " ++ (←Rtype.spelt dst))
  pure (.tuple #[])):=rfl
theorem OK(a:Addr)(w:World):(ReflectliteValue.parts (.agg #[.pointer (some ⟨2,339,none⟩),.pointer (some a),.int .u64 409])).run Tryz.prog w=.ok (some (339,a,409)) w:=by kernel_rfl
theorem OJ(a:Addr)(w:World):(ReflectliteValue.parts (.agg #[.pointer (some ⟨2,339,none⟩),.pointer (some a),.int .u64 153])).run Tryz.prog w=.ok (some (339,a,153)) w:=by kernel_rfl
theorem LP(w:World):(Rtype.directlyAssignable 339 339).run Tryz.prog w=.ok true w:=by kernel_rfl
theorem Iw(w:World):(sizeOf 339).run Tryz.prog w=.ok 1 w:=by kernel_rfl
theorem NL(W:World)(b:Addr)(n:Int)(k:W.cell? b=some (.int .i64 n)):(loadVar 339 b).run Tryz.prog W=.ok (.agg #[.int .i64 n]) W:=by
 simp[loadVar,isAgg,underlying,Tryz.underlying339,Iw,Result.andThen]
 rw[run_loadCells W b 1 (λ_=>.int .i64 n) (λj B=>by(obtain rfl:j=0:=by omega);exact k)]
 rfl
theorem iw(j b:Addr)(n:Int)(G:Value)(W:World)(k:W.cell? b=some (.int .i64 n))(F:W.cell? j=some G)(B:W.frozen? j=false) :
  (
   ReflectliteValue.set #[.agg #[.pointer (some ⟨2,339,none⟩),.pointer (some j),.int .u64 409],.agg #[.pointer (some ⟨2,339,none⟩),.pointer (some b),.int .u64 153]]).run Tryz.prog W
   = .ok (.tuple #[]) (W.setCell j (.int .i64 n)):=by
 rw[SC]
 simp only[Sem.run_bind,OK,OJ,Result.andThen]
 simp only[show(409/ReflectliteValue.flagAddr%2 == 0)=false from rfl,Bool.false_eq_true,if_false,Sem.run_bind,NL W b n k,Result.andThen,LP,if_true,storeVar,Iw]
 simp[Value.cells,storeCells,Addr.add,Result.andThen]
 rw[run_store Tryz.prog W j _ _ (by rfl)]
 simp[F,B]
set_option maxHeartbeats 4000000 in
set_option maxRecDepth 100000 in
theorem JS(n:Int)(t:Addr)(G:Value)(w:World)(j:w.cell? ⟨1,0,none⟩=some (.iface 446 (.agg #[hE])))(B:w.cell? t=some G)(Y:w.frozen? t=false) :
  Calls Tryz.prog 222 #[.iface 339 (.agg #[.int .i64 n]),.iface 345 (.pointer (some t))] w λO w'=>O=.returned (.bool true)∧w'=((((w.alloc (.cells #[.pointer (some t)] 345)).alloc (.cells #[hP,.pointer (some ⟨w.heap.size,0,none⟩),.int .u64 150] 411)).alloc (.cells #[hP,.pointer (some ⟨w.heap.size,0,none⟩),.int .u64 150] 411)).alloc (.cells #[.int .i64 n] 339)).setCell t (.int .i64 n):=by
 have aq:=@run_callFunc_extern Tryz.prog 303 _ (λM=>ReflectliteValue.unpack (M.getD 0 (.tuple #[]))) Tryz.func303 (by kernel_rfl) (by kernel_rfl) (by kernel_rfl) (by kernel_rfl)
 have ar:=@run_callFunc_extern Tryz.prog 304 _ (ReflectliteValue.methodAny (ReflectliteValue.valueError "reflectlite.Value.Type" 0) (λt _ _ _=>ReflectliteType.toType t)) Tryz.func304 (by kernel_rfl) (by kernel_rfl) (by kernel_rfl) (by kernel_rfl)
 have au:=@run_callFunc_extern Tryz.prog 305 _ (ReflectliteValue.method (ReflectliteValue.valueError "reflectlite.Value.IsNil" 0) ReflectliteValue.isNil) Tryz.func305 (by kernel_rfl) (by kernel_rfl) (by kernel_rfl) (by kernel_rfl)
 have ak:=@run_callFunc_extern Tryz.prog 399 _ (ReflectliteType.abiMethod λt=>do pure (.int .u8 (←Rtype.kind t))) Tryz.func399 (by kernel_rfl) (by kernel_rfl) (by kernel_rfl) (by kernel_rfl)
 have an:=@run_callFunc_extern Tryz.prog 411 _ (ReflectliteType.method ReflectliteType.elem) Tryz.func411 (by kernel_rfl) (by kernel_rfl) (by kernel_rfl) (by kernel_rfl)
 have ao:=@run_callFunc_extern Tryz.prog 412 _ (ReflectliteType.relation "Implements" ReflectliteType.implements_) Tryz.func412 (by kernel_rfl) (by kernel_rfl) (by kernel_rfl) (by kernel_rfl)
 have ah:=@run_callFunc_extern Tryz.prog 347 _ ReflectliteType.typeOf Tryz.func347 (by kernel_rfl) (by kernel_rfl) (by kernel_rfl) (by kernel_rfl)
 have al:=@run_callFunc_extern Tryz.prog 409 _ (ReflectliteType.relation "AssignableTo" ReflectliteType.assignableTo) Tryz.func409 (by kernel_rfl) (by kernel_rfl) (by kernel_rfl) (by kernel_rfl)
 have ai:=@run_callFunc_extern Tryz.prog 348 _ (ReflectliteValue.method (ReflectliteValue.valueError "reflectlite.Value.Elem" 0) ReflectliteValue.elem) Tryz.func348 (by kernel_rfl) (by kernel_rfl) (by kernel_rfl) (by kernel_rfl)
 have aj:=@run_callFunc_extern Tryz.prog 349 _ ReflectliteValue.set Tryz.func349 (by kernel_rfl) (by kernel_rfl) (by kernel_rfl) (by kernel_rfl)
 have aE:=Ue
 have az:=N4
 have Z:=JU
 have aF:=Uq
 have ad:=Up
 have ae:=Uf
 have aC:=N7
 have aA:=N5
 have aB:=N6
 have ay:=Nr
 have ax:=Ns
 have aa:=LX
 have aw:=MZ
 have aD:=Ni ⟨w.heap.size,0,none⟩ t ((w.alloc (.cells #[.pointer (some t)] 345)).alloc (.cells #[hP,.pointer (some ⟨w.heap.size,0,none⟩),.int .u64 150] 411)) (by simp)
 have k:1<w.heap.size:=by
  rcases Nat.lt_or_ge 1 w.heap.size with h|h
  ·exact h
  simp[World.cell?,Array.getElem?_eq_none h]at j
 have av:((w.alloc (.cells #[.pointer (some t)] 345)).alloc (.cells #[hP,.pointer (some ⟨w.heap.size,0,none⟩),.int .u64 150] 411)).cell? ⟨1,0,none⟩=some (.iface 446 (.agg #[hE])):=by
  rw[World.cell?_alloc_lt _ _ ⟨1,0,none⟩ (Nat.lt_of_lt_of_le k (by simp)),World.cell?_alloc_lt _ _ ⟨1,0,none⟩ k];exact j
 have F:t.block<w.heap.size:=by
  rcases Nat.lt_or_ge t.block w.heap.size with h|h
  ·exact h
  simp[World.cell?,Array.getElem?_eq_none h]at B
 have ab:=elemV ⟨w.heap.size,0,none⟩ t (((w.alloc (.cells #[.pointer (some t)] 345)).alloc (.cells #[hP,.pointer (some ⟨w.heap.size,0,none⟩),.int .u64 150] 411)).alloc (.cells #[hP,.pointer (some ⟨w.heap.size,0,none⟩),.int .u64 150] 411)) (by rw[World.cell?_alloc_lt _ _ ⟨w.heap.size,0,none⟩ (by simp;omega)];simp)
 have st:=iw t ⟨w.heap.size+1+1+1,0,none⟩ n G ((((w.alloc (.cells #[.pointer (some t)] 345)).alloc (.cells #[hP,.pointer (some ⟨w.heap.size,0,none⟩),.int .u64 150] 411)).alloc (.cells #[hP,.pointer (some ⟨w.heap.size,0,none⟩),.int .u64 150] 411)).alloc (.cells #[.int .i64 n] 339))
  (by rw[World.cell?_alloc_at _ _ _ _ (by simp)];rfl)
  (by rw[World.cell?_alloc_lt _ _ t (by simp;omega),World.cell?_alloc_lt _ _ t (by simp;omega),World.cell?_alloc_lt _ _ t (by simp;omega),World.cell?_alloc_lt _ _ t F];exact B)
  (by rw[World.frozen?_alloc_old _ _ t (by simp;omega),World.frozen?_alloc_old _ _ t (by simp;omega),World.frozen?_alloc_old _ _ t (by simp;omega),World.frozen?_alloc_old _ _ t (Nat.ne_of_lt F)];exact Y)
 go_enter Tryz.func222,Tryz.ntmps222
 go_wp2
 refine wp_loop_rounds 1 ?_
 rw[rounds_succ]
 go_wp2
 go_ret
 exact⟨rfl,rfl⟩
theorem Ly(w:World):Calls Tryz.prog 141 #[.nilIface] w λe w'=>e=.returned (.int .i64 0)∧w'=w.alloc (.cells #[.int .i64 0] 339):=by
 go_enter Tryz.func141,Tryz.ntmps141
 go_wp2_with (go_at_call 222;refine(JT _ _).mono ?_;rintro e w' ⟨rfl,rfl⟩)
 go_ret
 exact⟨rfl,rfl⟩
set_option maxHeartbeats 4000000 in
theorem Lx(n:Int)(w:World)(j:w.cell? ⟨1,0,none⟩=some (.iface 446 (.agg #[hE]))):Calls Tryz.prog 141 #[.iface 339 (.agg #[.int .i64 n])] w λe w'=>e=.returned (.int .i64 n)∧∃a b c d,w'=((((w.alloc (.cells #[.int .i64 n] 339)).alloc a).alloc b).alloc c).alloc d:=by
 have F:1<w.heap.size:=by
  rcases Nat.lt_or_ge 1 w.heap.size with h|h
  ·exact h
  simp[World.cell?,Array.getElem?_eq_none h]at j
 have B:(w.alloc (.cells #[.int .i64 0] 339)).cell? ⟨1,0,none⟩=some (.iface 446 (.agg #[hE])):=by
  rw[World.cell?_alloc_lt _ _ ⟨1,0,none⟩ F];exact j
 have G:(w.alloc (.cells #[.int .i64 0] 339)).cell? ⟨w.heap.size,0,none⟩=some (.int .i64 0):=by simp
 have k:(w.alloc (.cells #[.int .i64 0] 339)).frozen? ⟨w.heap.size,0,none⟩=false:=by simp
 go_enter Tryz.func141,Tryz.ntmps141
 go_wp2_with (go_at_call 222;refine(JS n _ (.int .i64 0) _ B G k).mono ?_;rintro e w' ⟨rfl,rfl⟩)
 go_ret
 exact⟨rfl,_,_,_,_,rfl⟩
end Cd
open Go.af Go.Sy
variable [jO]
noncomputable def pe:Option eO→Option Int:=λx=>some (match x with|none=>0|some r=>r.jL)
noncomputable def sB:Sy.Callee:=⟨141,[.cI 339 (.st 43)],[.int .i64],pe⟩
theorem ov{j:Nat}{w w':World}(h:cm j w w')(k:j≤w.heap.size)(o:Obj):cm j w (w'.alloc o):=h.alloc (Nat.le_trans k h.size) o
theorem Nl:eD Tryz.prog sB:=
 ⟨Enters.of Tryz.func141 (by decide),λa r h=>(by
  change Option eO at a
  change Int at r
  have h:pe a=some r:=h
  intro w I Z j an ao
  obtain⟨v,rfl⟩:∃v,Z = #[v]:=by
   match Z,an with
   | ⟨[a]⟩,_=>exact⟨a,rfl⟩
  have k:=ao 0 v _ rfl rfl
  have af:∀w':World,cm w.heap.size w w'→cw w' I:=λw' O=>⟨λb o u F=>(World.cell?_of_block (w:=w) (a:=⟨b,o,none⟩) (O.block b (j.lt F))).trans (j.cell b o u F),λb ag F=>MapAt.to (O.block b (j.jv F)) (j.mp b ag F),λb ad=>(O.block b (j.gE ad)).trans (j.df b ad),j.c9⟩
  cases a with
  |none=>
   obtain rfl:r=0:=by simpa [pe]using h.symm
   have k:Rd I v .fH:=k
   cases k
   refine(Cd.Ly w).mono ?_
   rintro e w' ⟨rfl,rfl⟩
   have B:=ov (cm.refl w.heap.size w) (Nat.le_refl _) (.cells #[.int .i64 0] 339)
   exact⟨_,I,rfl,B,eE.refl _ _,af _ B,.int _ _⟩
  |some x=>
   obtain rfl:r=x.jL:=by simpa [pe]using h.symm
   have k:Rd I v (.iface 339 (.agg [.int .i64 x.jL])):=k
   obtain⟨u,rfl,ae⟩:∃u,v=.iface 339 u∧Rd I u (.agg [.int .i64 x.jL]):=by
    cases k with
    |iface _ u _ h=>exact⟨u,rfl,h⟩
   obtain⟨cs,rfl,G,M⟩:∃cs,u=.agg cs∧cs.size=1∧∀(i:Nat) v d,cs[i]?=some v→[D.int .i64 x.jL][i]?=some d→Rd I v d:=by
    generalize U:[D.int .i64 x.jL]=l at ae
    cases ae with
    |agg cs _ G _ M=>exact⟨cs,rfl,by rw[G,←U];rfl,M⟩
   obtain⟨z,rfl⟩:∃z,cs = #[z]:=by
    match cs,G with
    | ⟨[a]⟩,_=>exact⟨a,rfl⟩
   have aq:=M 0 z _ rfl rfl
   cases aq
   have ak:Rd I (.pointer (some ⟨1,0,none⟩)) (.box (.iface 446 (.agg [.addr ⟨2,257,none⟩]))):=j.c9 1 _ rfl
   have al:w.cell? ⟨1,0,none⟩=some (.iface 446 (.agg #[Cd.hE])):=by
    cases ak with
    |box b d val az ah ai=>
     have aj:=j.cell _ _ _ (ah 0 (by simp[D.cells]))
     have aa:=ai 0 _ rfl
     rw[aj]
     generalize val 0=y at aa
     cases aa with
     |iface _ u _ ab=>
      generalize U:[D.addr ⟨2,257,none⟩]=l at ab
      cases ab with
      |agg cs _ ax _ Y=>
       subst U
       match cs,ax,Y with
       | ⟨[a]⟩,_,Y=>
        have ay:=Y 0 a _ rfl rfl
        cases ay;rfl
   refine(Cd.Lx x.jL w al).mono ?_
   rintro e w' ⟨rfl,ar,au,av,aw,rfl⟩
   have B:=ov (ov (ov (ov (ov (cm.refl w.heap.size w) (Nat.le_refl _) (.cells #[.int .i64 x.jL] 339)) (Nat.le_refl _) ar) (Nat.le_refl _) au) (Nat.le_refl _) av) (Nat.le_refl _) aw
   exact⟨_,I,rfl,B,eE.refl _ _,af _ B,.int _ _⟩),
  λt h=>bx (List.all_eq_true.1 (rfl:sB.args.all cF=true) t h),λt h=>bx (List.all_eq_true.1 (rfl:sB.res.all cF=true) t h)⟩
end Go.Proofs.YtioaemdeeebgcaaGreatDoor
namespace Go.Proofs.YtioaemdeeebgcaaGreatDoor
open Go Go.af Go.Sy
variable [jO]
set_option maxRecDepth 100000
def aN{σ ρ:Type}(n:Nat)(step:σ→Option (σ⊕ρ))(z:σ):Option ρ:=fu step n z
theorem Sz(q:Qk Tryz.prog){g:Nat→(ay q.r.c.args).den→Option (ay q.r.c.res).den}(h:∀n a,q.r.e n a=g n a)(n:Nat)(a:(ay q.r.c.args).den)(r:(ay q.r.c.res).den)(j:g n a=some r):q.r.c.fn a=some r:=q.r.ok n a r ((h n a).trans j)
noncomputable def ak(q:Qk Tryz.prog)(g:Nat→(ay q.r.c.args).den→Option (ay q.r.c.res).den)(h:∀n a,q.r.e n a=g n a:=by intro n a;kernel_rfl):Qk Tryz.prog:=⟨⟨q.r.c,g,Sz q h⟩,q.k⟩
noncomputable def Pn:Qk Tryz.prog:=⟨⟨⟨119,aG,[tI],gN 200⟩,λ_ a=>gN 200 a,λ_ _ _ h=>h⟩,kG 200⟩
noncomputable def FZ(_:Nat):Int→Option Int:=yn
noncomputable def Em:=ak (qk [tI] [tI] [] [] Tryz.func120) FZ
noncomputable def y9(_:Nat):Fraction→Option Fraction:=λ(j)=>aa (yn j.n) λF=>aa (yn j.d) λG=>aa (gN 200 (F,(G,()))) λB=>aa (ab (ai j.d 0) (ag (an (jz B)) <|some (jz B)) (some B)) λ(k:Int)=>ag (!(aj k 0)) <|ag (an (Int.tdiv j.n k)) <|ag (!(aj k 0)) <|ag (an (Int.tdiv j.d k)) <|some (⟨(Int.tdiv j.n k),(Int.tdiv j.d k)⟩:Fraction)
noncomputable def El:=ak (qk [.st 36] [.st 36] [Em,Pn] [] Tryz.func75) y9
noncomputable def Sj(_:Nat):Option eO→Option Int:=pe
noncomputable def Qa:Qk Tryz.prog:=⟨⟨sB,λ_ a=>pe a,λ_ _ _ h=>h⟩,Nl⟩
end Go.Proofs.YtioaemdeeebgcaaGreatDoor
namespace Go.Proofs.YtioaemdeeebgcaaGreatDoor
open Go Go.af Go.Sy
variable [jO]
set_option maxRecDepth 100000
noncomputable def jC(n:Nat):Rat→Option Bool:=λ(j)=>aa (ab (ai j.d 1) (some true) (ab (ai 1000000 j.d) (some true) (ab (ai j.n (-1000000000)) (some true) (some (ai 1000000000 j.n))))) λ(k:Bool)=>ab k (some false) (aa (y9 n (⟨j.n,j.d⟩:Fraction)) λB=>some (Ky B (⟨j.n,j.d⟩:Fraction)))
noncomputable def me:=ak (qk [.st 4] [.bool] [El] [] Tryz.func32) jC
noncomputable def rm(n:Nat):(Rat×Rat)→Option (Int×Int):=λ(j,k)=>aa (aa (jC n j) λB=>ab (!B) (some true) (aa (jC n k) λF=>some (!F))) λ(B:Bool)=>ab B (some (0,1)) (ag (an (j.n*k.d)) <|ag (an (k.n*j.d)) <|ab (ai (j.n*k.d) (k.n*j.d)) (some ((-1),0)) (ab (ai (k.n*j.d) (j.n*k.d)) (some (1,0)) (some (0,0))))
noncomputable def yE:=ak (qk [.st 4,.st 4] [tI,tI] [me] [] Tryz.func108) rm
noncomputable def pt(n:Nat):(Int×(Int×Int))→Option Bool:=λ(j,k,B)=>aa (ab (aB k j) (some (aB j B)) (some false)) λ(F:Bool)=>some F
noncomputable def Ek:=ak (qk [tI,tI,tI] [.bool] [] [] Tryz.func287) pt
noncomputable def iq(n:Nat):bT→Option Bool:=λ(j)=>aa (aa (pt n (j.step,(0,6))) λk=>ab k (aa (pt n (j.alter,((-4),4))) λB=>ab B (aa (pt n (j.cJ,((-8),20))) λF=>some F) (some false)) (some false)) λ(k:Bool)=>some k
noncomputable def lr:=ak (qk [.st 7] [.bool] [Ek] [] Tryz.func202) iq
noncomputable def uU(n:Nat):bT→Option Int:=λ(j)=>ag (an (12*j.cJ)) <|aa (aA (0::(2::(4::(5::(7::(9::(11::([]:List Int)))))))) j.step) λk=>ag (an ((12*j.cJ)+k)) <|ag (an (((12*j.cJ)+k)+j.alter)) <|some (((12*j.cJ)+k)+j.alter)
noncomputable def Ej:=ak (qk [.st 7] [tI] [] [] Tryz.func203) uU
noncomputable def nO(n:Nat):bT→Option (Int×Int):=λ(j)=>aa (iq n j) λB=>ab (!B) (some (0,1)) (aa (uU n j) λk=>some (k,0))
noncomputable def rh:=ak (qk [.st 7] [tI,tI] [lr,Ej] [] Tryz.func105) nO
noncomputable def zo(n:Nat):bT→Option Int:=λ(j)=>aa (nO n j) λk=>some k.1
noncomputable def RM:=ak (qk [.st 7] [tI] [rh] [] Tryz.func104) zo
noncomputable def rk(n:Nat):(List Int)→Option Int:=λ(k)=>aT (aN n (λj:Int=>ab (ai j (k.length:Int)) (aa (aA k j) λB=>ab (!(aj B 0)) (some (.inr (.inr B))) (ag (an (j+1)) <|some (.inl (j+1)))) (some (.inr (.inl ())))) 0) λ(j:Unit)=>some 0
noncomputable def uE:=ak (qk [.list tI] [tI] [] [] Tryz.func109) rk
noncomputable def zp(n:Nat):(cn×(cn×Unit))→Option Int:=λ(j,k,U)=>aa (rm n (j.start,k.start)) λG=>aa (rm n (j.length,k.length)) λM=>ag (an (j.part-k.part)) <|aa (zo n j.bP) λB=>aa (zo n k.bP) λF=>ag (an (B-F)) <|ag (an (j.bP.step-k.bP.step)) <|aa (rk n (G.1::((j.part-k.part)::((B-F)::((j.bP.step-k.bP.step)::(M.1::([]:List Int))))))) λO=>some O
noncomputable def yG:=ak (qk [.st 28,.st 28,.box (.fn 104)] [tI] [yE,RM,uE] [] Tryz.func107) zp
noncomputable def po(n:Nat):Rat→Option (Int×Bool):=λ(j)=>aa (aa (jC n j) λk=>ab (!k) (some true) (ab (ai j.n 0) (some true) (ag (!(aj j.d 0)) <|some (!(aj (Int.tmod 1680 j.d) 0))))) λ(k:Bool)=>ab k (some (0,false)) (ag (!(aj j.d 0)) <|ag (an (Int.tdiv 1680 j.d)) <|ag (an (j.n*(Int.tdiv 1680 j.d))) <|some ((j.n*(Int.tdiv 1680 j.d)),true))
noncomputable def Eg:=ak (qk [.st 4] [tI,.bool] [me] [] Tryz.func308) po
noncomputable def y3(n:Nat):(aV×(aV×(List (Int×Int))))→Option Int:=λ(j,k,B)=>aa (po n j.start) λF=>aa (po n k.start) λG=>aa (nO n j.bP) λM=>aa (nO n k.bP) λO=>ag (an ((aZ B j.bG 0)-(aZ B k.bG 0))) <|ag (an (j.part-k.part)) <|ag (an (F.1-G.1)) <|ag (an (j.ek-k.ek)) <|ag (an (M.1-O.1)) <|ag (an (j.id-k.id)) <|aa (rk n (((aZ B j.bG 0)-(aZ B k.bG 0))::((j.part-k.part)::((F.1-G.1)::((j.ek-k.ek)::((M.1-O.1)::((j.id-k.id)::([]:List Int)))))))) λU=>some U
noncomputable def yB:=ak (qk [.st 9,.st 9,.box (.map tI tI)] [tI] [Eg,rh,uE] [] Tryz.func315) y3
end Go.Proofs.YtioaemdeeebgcaaGreatDoor
namespace Go.Proofs
open Go.Shelf
def Tryz.Tf:Go.Shelf.Ren:=⟨λ|6=>314|15=>29|14=>351|28=>71|29=>72|20=>371|21=>372|22=>373|23=>374|24=>375|25=>376|26=>377|27=>378|46=>381|47=>113|48=>114|49=>382|50=>383|57=>384|n=>n,λ|22=>81|24=>80|25=>425|3=>3|39=>120|0=>0|53=>168|55=>170|4=>4|46=>160|45=>159|50=>165|5=>5|9=>9|66=>242|70=>246|76=>333|77=>334|n=>n,λ|n=>n⟩
theorem Tryz.IF:Go.Proofs.SlLaysF0.n6 Tryz.prog Tryz.Tf:={
 mixed:=by kernel_rfl
 f6:=⟨Tryz.f314.name,by decide,Tryz.func314.trans (congrArg some (by kernel_rfl))⟩
 f14:=⟨Tryz.f351.name,by decide,Tryz.func351.trans (congrArg some (by kernel_rfl))⟩
 f15:=Tryz.func29.trans (congrArg some (by kernel_rfl))
 f20:=⟨Tryz.f371.name,by decide,Tryz.func371.trans (congrArg some (by kernel_rfl))⟩
 f21:=⟨Tryz.f372.name,by decide,Tryz.func372.trans (congrArg some (by kernel_rfl))⟩
 f22:=⟨Tryz.f373.name,by decide,Tryz.func373.trans (congrArg some (by kernel_rfl))⟩
 f23:=⟨Tryz.f374.name,by decide,Tryz.func374.trans (congrArg some (by kernel_rfl))⟩
 f24:=⟨Tryz.f375.name,by decide,Tryz.func375.trans (congrArg some (by kernel_rfl))⟩
 f25:=⟨Tryz.f376.name,by decide,Tryz.func376.trans (congrArg some (by kernel_rfl))⟩
 f26:=⟨Tryz.f377.name,by decide,Tryz.func377.trans (congrArg some (by kernel_rfl))⟩
 f27:=⟨Tryz.f378.name,by decide,Tryz.func378.trans (congrArg some (by kernel_rfl))⟩
 f28:=Tryz.func71.trans (congrArg some (by kernel_rfl))
 f29:=Tryz.func72.trans (congrArg some (by kernel_rfl))
 f46:=⟨Tryz.f381.name,by decide,Tryz.func381.trans (congrArg some (by kernel_rfl))⟩
 f47:=Tryz.func113.trans (congrArg some (by kernel_rfl))
 f48:=Tryz.func114.trans (congrArg some (by kernel_rfl))
 f49:=⟨Tryz.f382.name,by decide,Tryz.func382.trans (congrArg some (by kernel_rfl))⟩
 f50:=⟨Tryz.f383.name,by decide,Tryz.func383.trans (congrArg some (by kernel_rfl))⟩
 f57:=⟨Tryz.f384.name,by decide,Tryz.func384.trans (congrArg some (by kernel_rfl))⟩
 t0:=Tryz.underlying0
 a0:=Tryz.isAgg0
 z0:=Tryz.sizeOf0
 v0:=Tryz.zeroValue0
 t3:=Tryz.underlying3
 a3:=Tryz.isAgg3
 z3:=Tryz.sizeOf3
 v3:=Tryz.zeroValue3
 t4:=Tryz.underlying4
 a4:=Tryz.isAgg4
 z4:=Tryz.sizeOf4
 v4:=Tryz.zeroValue4
 t5:=Tryz.underlying5
 a5:=Tryz.isAgg5
 z5:=Tryz.sizeOf5
 v5:=Tryz.zeroValue5
 t9:=Tryz.underlying9
 a9:=Tryz.isAgg9
 z9:=Tryz.sizeOf9
 v9:=Tryz.zeroValue9
 t22:=Tryz.underlying81
 a22:=Tryz.isAgg81
 z22:=Tryz.sizeOf81
 v22:=Tryz.zeroValue81
 t25:=Tryz.underlying425
 a25:=Tryz.isAgg425
 z25:=Tryz.sizeOf425
 v25:=Tryz.zeroValue425
 t39:=Tryz.underlying120
 a39:=Tryz.isAgg120
 z39:=Tryz.sizeOf120
 v39:=Tryz.zeroValue120
 t45:=Tryz.underlying159
 a45:=Tryz.isAgg159
 z45:=Tryz.sizeOf159
 v45:=Tryz.zeroValue159
 t46:=Tryz.underlying160
 a46:=Tryz.isAgg160
 z46:=Tryz.sizeOf160
 v46:=Tryz.zeroValue160
 t50:=Tryz.underlying165
 a50:=Tryz.isAgg165
 z50:=Tryz.sizeOf165
 v50:=Tryz.zeroValue165
 t53:=Tryz.underlying168
 a53:=Tryz.isAgg168
 z53:=Tryz.sizeOf168
 v53:=Tryz.zeroValue168
 t55:=Tryz.underlying170
 a55:=Tryz.isAgg170
 z55:=Tryz.sizeOf170
 v55:=Tryz.zeroValue170
 t66:=Tryz.underlying242
 a66:=Tryz.isAgg242
 z66:=Tryz.sizeOf242
 v66:=Tryz.zeroValue242
 t70:=Tryz.underlying246
 a70:=Tryz.isAgg246
 z70:=Tryz.sizeOf246
 v70:=Tryz.zeroValue246
 t76:=Tryz.underlying333
 a76:=Tryz.isAgg333
 z76:=Tryz.sizeOf333
 v76:=Tryz.zeroValue333
 t77:=Tryz.underlying334
 a77:=Tryz.isAgg334
 z77:=Tryz.sizeOf334
 v77:=Tryz.zeroValue334}
def Tryz.Tg:Go.Shelf.Ren:=⟨λ|6=>106|15=>29|14=>204|28=>71|29=>72|20=>288|21=>289|22=>290|23=>291|24=>292|25=>293|26=>294|27=>295|46=>336|47=>113|48=>114|49=>337|50=>338|57=>360|n=>n,λ|22=>53|24=>66|25=>236|3=>3|39=>120|0=>0|53=>168|55=>170|4=>4|46=>160|45=>159|50=>165|5=>5|9=>9|66=>242|70=>246|76=>333|77=>334|n=>n,λ|n=>n⟩
theorem Tryz.IG:Go.Proofs.SlLaysF0.n6 Tryz.prog Tryz.Tg:={
 mixed:=by kernel_rfl
 f6:=⟨Tryz.f106.name,by decide,Tryz.func106.trans (congrArg some (by kernel_rfl))⟩
 f14:=⟨Tryz.f204.name,by decide,Tryz.func204.trans (congrArg some (by kernel_rfl))⟩
 f15:=Tryz.func29.trans (congrArg some (by kernel_rfl))
 f20:=⟨Tryz.f288.name,by decide,Tryz.func288.trans (congrArg some (by kernel_rfl))⟩
 f21:=⟨Tryz.f289.name,by decide,Tryz.func289.trans (congrArg some (by kernel_rfl))⟩
 f22:=⟨Tryz.f290.name,by decide,Tryz.func290.trans (congrArg some (by kernel_rfl))⟩
 f23:=⟨Tryz.f291.name,by decide,Tryz.func291.trans (congrArg some (by kernel_rfl))⟩
 f24:=⟨Tryz.f292.name,by decide,Tryz.func292.trans (congrArg some (by kernel_rfl))⟩
 f25:=⟨Tryz.f293.name,by decide,Tryz.func293.trans (congrArg some (by kernel_rfl))⟩
 f26:=⟨Tryz.f294.name,by decide,Tryz.func294.trans (congrArg some (by kernel_rfl))⟩
 f27:=⟨Tryz.f295.name,by decide,Tryz.func295.trans (congrArg some (by kernel_rfl))⟩
 f28:=Tryz.func71.trans (congrArg some (by kernel_rfl))
 f29:=Tryz.func72.trans (congrArg some (by kernel_rfl))
 f46:=⟨Tryz.f336.name,by decide,Tryz.func336.trans (congrArg some (by kernel_rfl))⟩
 f47:=Tryz.func113.trans (congrArg some (by kernel_rfl))
 f48:=Tryz.func114.trans (congrArg some (by kernel_rfl))
 f49:=⟨Tryz.f337.name,by decide,Tryz.func337.trans (congrArg some (by kernel_rfl))⟩
 f50:=⟨Tryz.f338.name,by decide,Tryz.func338.trans (congrArg some (by kernel_rfl))⟩
 f57:=⟨Tryz.f360.name,by decide,Tryz.func360.trans (congrArg some (by kernel_rfl))⟩
 t0:=Tryz.underlying0
 a0:=Tryz.isAgg0
 z0:=Tryz.sizeOf0
 v0:=Tryz.zeroValue0
 t3:=Tryz.underlying3
 a3:=Tryz.isAgg3
 z3:=Tryz.sizeOf3
 v3:=Tryz.zeroValue3
 t4:=Tryz.underlying4
 a4:=Tryz.isAgg4
 z4:=Tryz.sizeOf4
 v4:=Tryz.zeroValue4
 t5:=Tryz.underlying5
 a5:=Tryz.isAgg5
 z5:=Tryz.sizeOf5
 v5:=Tryz.zeroValue5
 t9:=Tryz.underlying9
 a9:=Tryz.isAgg9
 z9:=Tryz.sizeOf9
 v9:=Tryz.zeroValue9
 t22:=Tryz.underlying53
 a22:=Tryz.isAgg53
 z22:=Tryz.sizeOf53
 v22:=Tryz.zeroValue53
 t25:=Tryz.underlying236
 a25:=Tryz.isAgg236
 z25:=Tryz.sizeOf236
 v25:=Tryz.zeroValue236
 t39:=Tryz.underlying120
 a39:=Tryz.isAgg120
 z39:=Tryz.sizeOf120
 v39:=Tryz.zeroValue120
 t45:=Tryz.underlying159
 a45:=Tryz.isAgg159
 z45:=Tryz.sizeOf159
 v45:=Tryz.zeroValue159
 t46:=Tryz.underlying160
 a46:=Tryz.isAgg160
 z46:=Tryz.sizeOf160
 v46:=Tryz.zeroValue160
 t50:=Tryz.underlying165
 a50:=Tryz.isAgg165
 z50:=Tryz.sizeOf165
 v50:=Tryz.zeroValue165
 t53:=Tryz.underlying168
 a53:=Tryz.isAgg168
 z53:=Tryz.sizeOf168
 v53:=Tryz.zeroValue168
 t55:=Tryz.underlying170
 a55:=Tryz.isAgg170
 z55:=Tryz.sizeOf170
 v55:=Tryz.zeroValue170
 t66:=Tryz.underlying242
 a66:=Tryz.isAgg242
 z66:=Tryz.sizeOf242
 v66:=Tryz.zeroValue242
 t70:=Tryz.underlying246
 a70:=Tryz.isAgg246
 z70:=Tryz.sizeOf246
 v70:=Tryz.zeroValue246
 t76:=Tryz.underlying333
 a76:=Tryz.isAgg333
 z76:=Tryz.sizeOf333
 v76:=Tryz.zeroValue333
 t77:=Tryz.underlying334
 a77:=Tryz.isAgg334
 z77:=Tryz.sizeOf334
 v77:=Tryz.zeroValue334}
def Tryz.Te:Go.Shelf.Ren:=⟨λ|5=>16|8=>29|7=>28|19=>71|20=>72|10=>62|11=>63|12=>64|13=>65|14=>66|15=>67|16=>68|17=>69|18=>70|30=>112|31=>113|32=>114|33=>115|34=>116|35=>117|40=>208|n=>n,λ|23=>26|25=>3|3=>3|32=>120|22=>26|0=>0|44=>168|46=>170|4=>4|36=>160|35=>159|41=>165|5=>5|9=>9|53=>242|57=>246|63=>333|64=>334|n=>n,λ|n=>n⟩
theorem Tryz.sortInt:Go.Proofs.SlLaysM.n5 Tryz.prog Tryz.Te:={
 mixed:=by kernel_rfl
 f5:=⟨Tryz.f16.name,by decide,Tryz.func16.trans (congrArg some (by kernel_rfl))⟩
 f7:=⟨Tryz.f28.name,by decide,Tryz.func28.trans (congrArg some (by kernel_rfl))⟩
 f8:=Tryz.func29.trans (congrArg some (by kernel_rfl))
 f10:=⟨Tryz.f62.name,by decide,Tryz.func62.trans (congrArg some (by kernel_rfl))⟩
 f11:=⟨Tryz.f63.name,by decide,Tryz.func63.trans (congrArg some (by kernel_rfl))⟩
 f12:=⟨Tryz.f64.name,by decide,Tryz.func64.trans (congrArg some (by kernel_rfl))⟩
 f13:=⟨Tryz.f65.name,by decide,Tryz.func65.trans (congrArg some (by kernel_rfl))⟩
 f14:=⟨Tryz.f66.name,by decide,Tryz.func66.trans (congrArg some (by kernel_rfl))⟩
 f15:=⟨Tryz.f67.name,by decide,Tryz.func67.trans (congrArg some (by kernel_rfl))⟩
 f16:=⟨Tryz.f68.name,by decide,Tryz.func68.trans (congrArg some (by kernel_rfl))⟩
 f17:=⟨Tryz.f69.name,by decide,Tryz.func69.trans (congrArg some (by kernel_rfl))⟩
 f18:=⟨Tryz.f70.name,by decide,Tryz.func70.trans (congrArg some (by kernel_rfl))⟩
 f19:=Tryz.func71.trans (congrArg some (by kernel_rfl))
 f20:=Tryz.func72.trans (congrArg some (by kernel_rfl))
 f30:=⟨Tryz.f112.name,by decide,Tryz.func112.trans (congrArg some (by kernel_rfl))⟩
 f31:=Tryz.func113.trans (congrArg some (by kernel_rfl))
 f32:=Tryz.func114.trans (congrArg some (by kernel_rfl))
 f33:=⟨Tryz.f115.name,by decide,Tryz.func115.trans (congrArg some (by kernel_rfl))⟩
 f34:=⟨Tryz.f116.name,by decide,Tryz.func116.trans (congrArg some (by kernel_rfl))⟩
 f35:=⟨Tryz.f117.name,by decide,Tryz.func117.trans (congrArg some (by kernel_rfl))⟩
 f40:=⟨Tryz.f208.name,by decide,Tryz.func208.trans (congrArg some (by kernel_rfl))⟩
 t0:=Tryz.underlying0
 a0:=Tryz.isAgg0
 z0:=Tryz.sizeOf0
 v0:=Tryz.zeroValue0
 t3:=Tryz.underlying3
 a3:=Tryz.isAgg3
 z3:=Tryz.sizeOf3
 v3:=Tryz.zeroValue3
 t4:=Tryz.underlying4
 a4:=Tryz.isAgg4
 z4:=Tryz.sizeOf4
 v4:=Tryz.zeroValue4
 t5:=Tryz.underlying5
 a5:=Tryz.isAgg5
 z5:=Tryz.sizeOf5
 v5:=Tryz.zeroValue5
 t9:=Tryz.underlying9
 a9:=Tryz.isAgg9
 z9:=Tryz.sizeOf9
 v9:=Tryz.zeroValue9
 t22:=Tryz.underlying26
 a22:=Tryz.isAgg26
 z22:=Tryz.sizeOf26
 v22:=Tryz.zeroValue26
 t23:=Tryz.underlying26
 a23:=Tryz.isAgg26
 z23:=Tryz.sizeOf26
 v23:=Tryz.zeroValue26
 t25:=Tryz.underlying3
 a25:=Tryz.isAgg3
 z25:=Tryz.sizeOf3
 v25:=Tryz.zeroValue3
 t32:=Tryz.underlying120
 a32:=Tryz.isAgg120
 z32:=Tryz.sizeOf120
 v32:=Tryz.zeroValue120
 t35:=Tryz.underlying159
 a35:=Tryz.isAgg159
 z35:=Tryz.sizeOf159
 v35:=Tryz.zeroValue159
 t36:=Tryz.underlying160
 a36:=Tryz.isAgg160
 z36:=Tryz.sizeOf160
 v36:=Tryz.zeroValue160
 t41:=Tryz.underlying165
 a41:=Tryz.isAgg165
 z41:=Tryz.sizeOf165
 v41:=Tryz.zeroValue165
 t44:=Tryz.underlying168
 a44:=Tryz.isAgg168
 z44:=Tryz.sizeOf168
 v44:=Tryz.zeroValue168
 t46:=Tryz.underlying170
 a46:=Tryz.isAgg170
 z46:=Tryz.sizeOf170
 v46:=Tryz.zeroValue170
 t53:=Tryz.underlying242
 a53:=Tryz.isAgg242
 z53:=Tryz.sizeOf242
 v53:=Tryz.zeroValue242
 t57:=Tryz.underlying246
 a57:=Tryz.isAgg246
 z57:=Tryz.sizeOf246
 v57:=Tryz.zeroValue246
 t63:=Tryz.underlying333
 a63:=Tryz.isAgg333
 z63:=Tryz.sizeOf333
 v63:=Tryz.zeroValue333
 t64:=Tryz.underlying334
 a64:=Tryz.isAgg334
 z64:=Tryz.sizeOf334
 v64:=Tryz.zeroValue334}
end Go.Proofs
namespace Go.Proofs
open Go.Shelf
def Tryz.MV:Go.Shelf.Ren:=⟨λ|315=>118|n=>n,λ|9=>9|40=>171|4=>4|3=>3|0=>0|21=>21|n=>n,λ|n=>n⟩
theorem Tryz.oN:Go.Proofs.Lays.n315 Tryz.prog Tryz.MV:={
 mixed:=by kernel_rfl
 f315:=Tryz.func118.trans (congrArg some (by kernel_rfl))
 t0:=Tryz.underlying0
 a0:=Tryz.isAgg0
 z0:=Tryz.sizeOf0
 v0:=Tryz.zeroValue0
 t3:=Tryz.underlying3
 a3:=Tryz.isAgg3
 z3:=Tryz.sizeOf3
 v3:=Tryz.zeroValue3
 t4:=Tryz.underlying4
 a4:=Tryz.isAgg4
 z4:=Tryz.sizeOf4
 v4:=Tryz.zeroValue4
 t9:=Tryz.underlying9
 a9:=Tryz.isAgg9
 z9:=Tryz.sizeOf9
 v9:=Tryz.zeroValue9
 t21:=Tryz.underlying21
 a21:=Tryz.isAgg21
 z21:=Tryz.sizeOf21
 v21:=Tryz.zeroValue21
 t40:=Tryz.underlying171
 a40:=Tryz.isAgg171
 z40:=Tryz.sizeOf171
 v40:=Tryz.zeroValue171}
end Go.Proofs
namespace Go.Proofs.YtioaemdeeebgcaaGreatDoor
open Go Go.af Go.Sy Go.RowKit
@[reducible] def jB:jO:=⟨False⟩
attribute [local instance] jG jB
set_option maxRecDepth 100000
noncomputable def yj:Int→Option Bool:=λ(j)=>aa (ab (ai j 65) (ab (ai j 48) (some true) (some (ai 57 j))) (ab (ai 90 j) (ab (ai j 48) (some true) (some (ai 57 j))) (some false))) λ(k:Bool)=>some k
noncomputable def J8:=bk [.int .i32] [.bool] yj [] Tryz.func299
def o8(x:Nat):Bool:=(Nat.blt x 65||Nat.blt 90 x)&&(Nat.blt x 48||Nat.blt 57 x)
theorem ub(a b:Nat):ai (a:Int) (b:Int)=Nat.blt a b:=by
 rw[Bool.eq_iff_iff,Nat.blt_eq]
 simp[ai]
theorem Ou(x:Nat):yj (x:Int)=some (o8 x):=by
 unfold yj o8
 rw[show ai (x:Int) 65=Nat.blt x 65 from ub x 65,show ai (x:Int) 48=Nat.blt x 48 from ub x 48,show ai 57 (x:Int)=Nat.blt 57 x from ub 57 x,show ai 90 (x:Int)=Nat.blt 90 x from ub 90 x]
 cases Nat.blt x 65<;>cases Nat.blt x 48<;>cases Nat.blt 57 x<;>cases Nat.blt 90 x<;>rfl
abbrev aI:List Ty:=[.str,.fn 299,.bool]
noncomputable def qM(a:ByteArray×Unit×Bool):Option Int:=some (Lib.idxFunc o8 a.2.2 a.1)
theorem Nk:eD Tryz.prog ⟨118,aI,[tI],qM⟩:=
 ⟨Enters.of Tryz.func118 (by decide),(λ(a:ByteArray×Unit×Bool)(r:Int) h=>by
  have h:qM a=some r:=h
  injection h with h
  subst h
  obtain⟨s,u,t⟩:=a
  intro w I ab F ak Z
  obtain⟨M,O,U,rfl⟩:∃M O U,ab = #[M,O,U]:=by
   match ab,ak with
   | ⟨[a,b,c]⟩,_=>exact⟨a,b,c,rfl⟩
  have ag:Rd I M (.str s):=Z 0 M _ rfl rfl
  have ah:Rd I O (.fn 299):=Z 1 O _ rfl rfl
  have ai:Rd I U (.bool t):=Z 2 U _ rfl rfl
  cases ag;cases ah;cases ai
  have ae:∀w':World,cm w.heap.size w w'→cw w' I:=λw' Y=>⟨λb o u G=>(World.cell?_of_block (w:=w) (a:=⟨b,o,none⟩) (Y.block b (F.lt G))).trans (F.cell b o u G),λb af G=>MapAt.to (Y.block b (F.jv G)) (F.mp b af G),λb j=>(Y.block b (F.gE j)).trans (F.df b j),F.c9⟩
  have al:Go.Proofs.PredGrows Tryz.prog 299 #[] o8 w:=λW x ao aj=>by
   have c:=J8.k.jX (x:Int) (o8 x) (Ou x) W I #[.int .i32 (x:Int)] (ae W (cm.of aj λh=>h.elim)) rfl (λi v d aa j=>by
    rcases i with _|i
    ·simp at aa
     have j:some (D.int .i32 (x:Int))=some d:=j
     injection j with j
     subst aa;subst j;exact .int _ _
    simp at aa)
   refine c.mono ?_
   rintro e w' ⟨v,J,rfl,B,_,_,an⟩
   cases an
   exact⟨rfl,B.os,B.tape,B.output,B.size,B.block⟩
  have c:=Go.Proofs.Any.strings_indexFunc_grows Tryz.oN 299 #[] (Enters.of Tryz.func299 (by decide)) o8 t s w al
  refine c.mono ?_
  rintro e w' ⟨rfl,B⟩
  have ad:=cm.of B λh=>h.elim
  exact⟨_,I,rfl,ad,.refl ..,ae w' ad,.int _ _⟩),λt h=>bx (List.all_eq_true.1 (rfl:aI.all cF=true) t h),λt h=>bx (List.all_eq_true.1 (rfl:[tI].all cF=true) t h)⟩
noncomputable def Sl(_:Nat):(ByteArray×Unit×Bool)→Option Int:=qM
noncomputable def R5:Qk Tryz.prog:=⟨⟨⟨118,aI,[tI],qM⟩,λ_ a=>qM a,λ_ _ _ h=>h⟩,Nk⟩
end Go.Proofs.YtioaemdeeebgcaaGreatDoor
namespace Go.Proofs.YtioaemdeeebgcaaGreatDoor
open Go Go.af Go.Sy Go.RowKit Go.Sort
attribute [local instance] jG jB
set_option maxRecDepth 100000
theorem ye(x:aV):au.cells 9 x=[.int .i64 x.id,.int .i64 x.part,.int .i64 x.bG,.int .i64 x.ek,.int .i64 x.eX,.int .i64 x.start.n,.int .i64 x.start.d,.int .i64 x.length.n,.int .i64 x.length.d,.int .i64 x.bP.step,.int .i64 x.bP.alter,.int .i64 x.bP.cJ]:=rfl
theorem DA(x:aV)(y:D)(j:y∈au.cells 9 x):∃n,y=.int .i64 n:=by
 rw[ye]at j
 simp only[List.mem_cons,List.not_mem_nil,or_false]at j
 rcases j with rfl|rfl|rfl|rfl|rfl|rfl|rfl|rfl|rfl|rfl|rfl|rfl<;>exact⟨_,rfl⟩
noncomputable abbrev cN:aV×aV×List (Int×Int)→Option Int:=(@Qk.r _ (@iJ ⟨True⟩) _ (@yB ⟨True⟩)).c.fn
noncomputable def rK:eF:=⟨314,.st 9,[.ar 315 (.box (.map (.int .i64) (.int .i64)))],kD cN⟩
theorem Nn:gu Tryz.prog rK.f rK.t rK.args rK.fn:=
 Jf (@iJ ⟨True⟩) (D0:=@iJ jB) trivial rfl (i:=9) (k:=12) (t:=.box (.map (.int .i64) (.int .i64))) (⟨0,0,0,0,0,⟨0,0⟩,⟨0,0⟩,⟨0,0,0⟩⟩:aV)
  (
   λ(x y:aV) h=>by
   rw[ye,ye]at h
   obtain⟨aa,af,ag,ah,ai,⟨aj,ak⟩,⟨al,an⟩,ab,ad,ae⟩:=x
   obtain⟨ao,av,aw,ax,ay,⟨az,aA⟩,⟨aB,aC⟩,aq,ar,au⟩:=y
   simp only[List.cons.injEq,D.int.injEq,true_and,and_true]at h
   obtain⟨rfl,rfl,rfl,rfl,rfl,rfl,rfl,rfl,rfl,rfl,rfl,rfl⟩:=h
   rfl)
  (λx=>rfl)
  (
   λ(x:aV) y j=>by
   obtain⟨n,rfl⟩:=DA x y j
   rfl)
  (λ(c:List (Int×Int))(x:aV) z Z=>@eD.jX _ (@iJ ⟨True⟩) _ _ (@Qk.k _ (@iJ ⟨True⟩) _ (@yB ⟨True⟩)) (x,x,c) _ Z)
  (Enters.of Tryz.func314 (by decide))
  (
   λe aE _ aD Y b c d w vs O G M U=>by
   exact AnyQ.slices_SortFunc_eq Tryz.IF 12 Tryz.isAgg80 Tryz.sizeOf80 _ (λx=>rfl) (λx v B=>by
    simp only[List.mem_map]at B
    obtain⟨y,j,rfl⟩:=B
    obtain⟨n,rfl⟩:=DA x.1 y j
    rfl) _ (zY Y) 315 vs b 0 c d w (Enters.of Tryz.func315 (by decide)) O G M U)
  (λp c F w=>AnyF.slices_SortFunc_none {Tryz.IF with} p c F w)
noncomputable def Hg(n:Nat):(List aV×List (Int×Int))→Option (List aV):=kD (y3 n)
noncomputable def TS:Tk Tryz.prog:=⟨rK,Nn,Hg,λn a r h=>IC (c1:=y3 n) (c2:=cN) (λb z j=>(@Qk.r _ (@iJ ⟨True⟩) _ (@yB ⟨True⟩)).ok n b z j) (a:=(a:List aV×List (Int×Int))) (r:=(r:List aV)) h⟩
theorem Ad(x:cn):au.cells 28 x=[.int .i64 x.part,.int .i64 x.start.n,.int .i64 x.start.d,.int .i64 x.length.n,.int .i64 x.length.d,.int .i64 x.bP.step,.int .i64 x.bP.alter,.int .i64 x.bP.cJ]:=rfl
theorem I5(x:cn)(y:D)(j:y∈au.cells 28 x):∃n,y=.int .i64 n:=by
 rw[Ad]at j
 simp only[List.mem_cons,List.not_mem_nil,or_false]at j
 rcases j with rfl|rfl|rfl|rfl|rfl|rfl|rfl|rfl<;>exact⟨_,rfl⟩
noncomputable abbrev cT:cn×cn×Unit→Option Int:=(@Qk.r _ (@iJ ⟨True⟩) _ (@yG ⟨True⟩)).c.fn
noncomputable def rL:eF:=⟨106,.st 28,[.ar 107 (.box (.fn 104))],kD cT⟩
theorem No:gu Tryz.prog rL.f rL.t rL.args rL.fn:=
 Jf (@iJ ⟨True⟩) (D0:=@iJ jB) trivial rfl (i:=28) (k:=8) (t:=.box (.fn 104)) (⟨0,⟨0,0⟩,⟨0,0⟩,⟨0,0,0⟩⟩:cn)
  (
   λ(x y:cn) h=>by
   rw[Ad,Ad]at h
   obtain⟨aa,⟨af,ag⟩,⟨ah,ai⟩,ab,ad,ae⟩:=x
   obtain⟨aj,⟨ao,aq⟩,⟨ar,au⟩,ak,al,an⟩:=y
   simp only[List.cons.injEq,D.int.injEq,true_and,and_true]at h
   obtain⟨rfl,rfl,rfl,rfl,rfl,rfl,rfl,rfl⟩:=h
   rfl)
  (λx=>rfl)
  (
   λ(x:cn) y j=>by
   obtain⟨n,rfl⟩:=I5 x y j
   rfl)
  (λ(c:Unit)(x:cn) z Z=>@eD.jX _ (@iJ ⟨True⟩) _ _ (@Qk.k _ (@iJ ⟨True⟩) _ (@yG ⟨True⟩)) (x,x,()) _ Z)
  (Enters.of Tryz.func106 (by decide))
  (
   λe aw _ av Y b c d w vs O G M U=>by
   exact AnyQ.slices_SortFunc_eq Tryz.IG 8 Tryz.isAgg66 Tryz.sizeOf66 _ (λx=>rfl) (λx v B=>by
    simp only[List.mem_map]at B
    obtain⟨y,j,rfl⟩:=B
    obtain⟨n,rfl⟩:=I5 x.1 y j
    rfl) _ (zY Y) 107 vs b 0 c d w (Enters.of Tryz.func107 (by decide)) O G M U)
  (λp c F w=>AnyF.slices_SortFunc_none {Tryz.IG with} p c F w)
noncomputable def Hh(n:Nat):(List cn×Unit)→Option (List cn):=kD (zp n)
noncomputable def TT:Tk Tryz.prog:=⟨rL,No,Hh,λn a r h=>IC (c1:=zp n) (c2:=cT) (λb z j=>(@Qk.r _ (@iJ ⟨True⟩) _ (@yG ⟨True⟩)).ok n b z j) (a:=(a:List cn×Unit)) (r:=(r:List cn)) h⟩
noncomputable def pH:eF:=⟨16,tI,[],kE⟩
theorem CK:gu Tryz.prog pH.f pH.t pH.args pH.fn:=
 Ub (Enters.of Tryz.func16 (by decide)) (λb j zs w k B F=>Go.Proofs.AnyM.slices_Sort_int Tryz.sortInt b 0 j zs w k B F) (λp c w=>Go.Proofs.AnyM.slices_Sort_int_none Tryz.sortInt p c w)
def zO(xs:List Int):Option (List Int):=match xs with| []=>some []| [x]=>some [x]|_=>none
theorem S3{a r:List Int}(h:zO a=some r):kE a=some r:=by
 unfold zO at h
 split at h
 ·injection h with h;subst h;simp[kE]
 ·injection h with h;subst h;simp[kE]
 cases h
noncomputable def Hi(_:Nat):List Int→Option (List Int):=zO
noncomputable def TU:Tk Tryz.prog:=⟨pH,CK,Hi,λ_ a r h=>S3 (a:=a) (r:=r) h⟩
end Go.Proofs.YtioaemdeeebgcaaGreatDoor
namespace Go.Proofs.YtioaemdeeebgcaaGreatDoor
open Go Go.af Go.Sy
attribute [local instance] jB
set_option maxRecDepth 100000
noncomputable def Fb(n:Nat):Unit→Option fZ:=λ()=>some (⟨((⟨(⟨1,((⟨11,(⟨4,1⟩:Rat),0⟩:dG)::((⟨12,(⟨4,1⟩:Rat),0⟩:dG)::((⟨13,(⟨4,1⟩:Rat),0⟩:dG)::([]:List dG)))),((⟨1,0,0,0,1,(⟨0,0⟩:Interval),(⟨0,0,0⟩:bT),(⟨0,0,9⟩:bT)⟩:Part)::([]:List Part)),((⟨5,1,12,0,0,(⟨0,1⟩:Rat),(⟨1,1⟩:Rat),(⟨0,0,4⟩:bT)⟩:aV)::([]:List aV))⟩:Score),(⟨3,([]:List Repeat),([]:List Ending),(⟨0,0,0⟩:Jump),([]:List Cut)⟩:Form),((⟨0,(⟨1,1⟩:Rat)⟩:lI)::([]:List lI))⟩:c8)::([]:List c8)),((⟨1,1,((⟨1,11,0⟩:dC)::((⟨2,12,0⟩:dC)::((⟨3,13,0⟩:dC)::([]:List dC)))),([]:List iF)⟩:ct)::((⟨2,1,((⟨4,11,0⟩:dC)::((⟨5,12,0⟩:dC)::([]:List dC))),([]:List iF)⟩:ct)::([]:List ct))),([]:List om),([]:List jg)⟩:fZ)
noncomputable def Pv:=ak (qk [] [.st 23] [] [] Tryz.func7) Fb
noncomputable def uH(n:Nat):(Int×(Int×Int))→Option Bool:=λ(j,k,B)=>aa (ab (aB k j) (some (aB j B)) (some false)) λ(F:Bool)=>some F
noncomputable def OT:=ak (qk [tI,tI,tI] [.bool] [] [] Tryz.func30) uH
noncomputable def Hy(n:Nat):(ByteArray×(Unit×Bool))→Option Int:=λ(j,k,B)=>none
noncomputable def R4:=ak (qk [.str,.fn 73,.bool] [tI] [] [] Tryz.func118) Hy
noncomputable def Hw(n:Nat):(ByteArray×Unit)→Option Int:=λ(j,k)=>aa (Hy n (j,(k,true))) λB=>some B
noncomputable def R2:=ak (qk [.str,.fn 73] [tI] [R4] [] Tryz.func74) Hw
noncomputable def yK(n:Nat):ByteArray→Option Bool:=λ(j)=>aa (ab (!(j == (⟨⟨[]⟩⟩:ByteArray))) (ab (aB (j.size:Int) 12) (aa (Hw n (j,())) λk=>ab (ai k 0) (ag ((aB 0 0)&&(ai 0 (j.size:Int))) <|some (aB 65 (sA j 0))) (some false)) (some false)) (some false)) λ(k:Bool)=>some k
noncomputable def OS:=ak (qk [.str] [.bool] [R2] [] Tryz.func31) yK
noncomputable def yJ(n:Nat):Call→Option Bool:=λ(j)=>aa (ab (j.letter == (⟨⟨[]⟩⟩:ByteArray)) (aa (uH n (j.number,(0,100000))) λk=>ab k (some true) (aa (yK n j.letter) λB=>ab B (some (aj j.number 0)) (some false))) (aa (yK n j.letter) λk=>ab k (some (aj j.number 0)) (some false))) λ(k:Bool)=>aa (aa (jC n j.fB) λB=>ab B (ab (aB 0 j.fB.n) (ag (!(aj j.fB.d 0)) <|ab (aj (Int.tmod 1680 j.fB.d) 0) (ag (an (24*j.fB.d)) <|some (ai j.fB.n (24*j.fB.d))) (some false)) (some false)) (some false)) λ(B:Bool)=>aa (ab k (ab B (aa (uH n (j.bars,((-1000),1000))) λF=>ab F (aa (uH n (j.pass,(0,20000))) λG=>some G) (some false)) (some false)) (some false)) λ(F:Bool)=>some F
noncomputable def DT:=ak (qk [.st 25] [.bool] [OT,OS,me] [] Tryz.func17) yJ
noncomputable def F5(n:Nat):Order→Option Bool:=λ(B)=>aT (aN n (λk:(Int×Int)=>ab (ai k.2 (B.form.cj.length:Int)) (aa (aA B.form.cj k.2) λj=>aa (ab (ai j.from_ k.1) (some true) (ab (aB j.cW j.from_) (some true) (ab (ai B.form.bars j.cW) (some true) (ab (ai j.times 1) (some true) (some (ai 9 j.times)))))) λ(F:Bool)=>ab F (some (.inr (.inr false))) (ag (an (k.2+1)) <|some (.inl (j.cW,(k.2+1))))) (some (.inr (.inl ())))) (0,0)) λ(k:Unit)=>some (aB (B.form.cj.length:Int) 100)
noncomputable def Qu:=ak (qk [.st 41] [.bool] [] [] Tryz.func149) F5
noncomputable def F4(n:Nat):(Repeat×Ending)→Option Bool:=λ(j,k)=>aa (ab (aB j.from_ k.from_) (some (aB k.cW j.cW)) (some false)) λ(B:Bool)=>some B
noncomputable def Qt:=ak (qk [.st 11,.box (.st 12)] [.bool] [] [] Tryz.func237) F4
noncomputable def G5(n:Nat):((List Repeat)×Ending)→Option Int:=λ(k,B)=>aT (aN n (λj:Int=>ab (ai j (k.length:Int)) (aa (aA k j) λF=>aa (F4 n (F,B)) λG=>ab G (some (.inr (.inr j))) (ag (an (j+1)) <|some (.inl (j+1)))) (some (.inr (.inl ())))) 0) λ(j:Unit)=>some (-1)
noncomputable def Rz:=ak (qk [.list (.st 11),.ar 237 (.box (.st 12))] [tI] [Qt] [] Tryz.func316) G5
noncomputable def GH(n:Nat):((List Repeat)×Ending)→Option Bool:=λ(j,k)=>aa (G5 n (j,k)) λB=>some (aB 0 B)
noncomputable def Ra:=ak (qk [.list (.st 11),.ar 237 (.box (.st 12))] [.bool] [Rz] [] Tryz.func236) GH
noncomputable def F3(n:Nat):Order→Option Bool:=λ(B)=>aT (aN n (λk:(Int×Int)=>ab (ai k.2 (B.form.dt.length:Int)) (aa (aA B.form.dt k.2) λj=>aa (GH n (B.form.cj,j)) λG=>aa (ab (ai j.from_ k.1) (some true) (ab (aB j.cW j.from_) (some true) (ab (!G) (some true) (ab (ai j.pass 1) (some true) (some (ai 9 j.pass)))))) λ(F:Bool)=>ab F (some (.inr (.inr false))) (ag (an (k.2+1)) <|some (.inl (j.cW,(k.2+1))))) (some (.inr (.inl ())))) (0,0)) λ(k:Unit)=>some (aB (B.form.dt.length:Int) 100)
noncomputable def Qs:=ak (qk [.st 41] [.bool] [Ra] [] Tryz.func150) F3
noncomputable def F9(n:Nat):(Repeat×Int)→Option Bool:=λ(j,k)=>aa (ab (ai j.from_ k) (some (ai k j.cW)) (some false)) λ(B:Bool)=>some B
noncomputable def QB:=ak (qk [.st 11,.box tI] [.bool] [] [] Tryz.func317) F9
noncomputable def G6(n:Nat):((List Repeat)×Int)→Option Int:=λ(k,B)=>aT (aN n (λj:Int=>ab (ai j (k.length:Int)) (aa (aA k j) λF=>aa (F9 n (F,B)) λG=>ab G (some (.inr (.inr j))) (ag (an (j+1)) <|some (.inl (j+1)))) (some (.inr (.inl ())))) 0) λ(j:Unit)=>some (-1)
noncomputable def RA:=ak (qk [.list (.st 11),.ar 317 (.box tI)] [tI] [QB] [] Tryz.func316) G6
noncomputable def GI(n:Nat):((List Repeat)×Int)→Option Bool:=λ(j,k)=>aa (G6 n (j,k)) λB=>some (aB 0 B)
noncomputable def Rb:=ak (qk [.list (.st 11),.ar 317 (.box tI)] [.bool] [RA] [] Tryz.func236) GI
noncomputable def uW(n:Nat):(Order×Int)→Option Bool:=λ(j,k)=>aa (GI n (j.form.cj,k)) λB=>some B
noncomputable def QA:=ak (qk [.st 41,tI] [.bool] [Rb] [] Tryz.func238) uW
noncomputable def F7(n:Nat):Order→Option Bool:=λ(j)=>ab (KA j.form.jump (⟨0,0,0⟩:Jump)) (some true) (aa (ab (ai j.form.jump.at_ 1) (some true) (ab (ai j.form.bars j.form.jump.at_) (some true) (ab (ai j.form.jump.to 0) (some true) (ab (aB j.form.jump.at_ j.form.jump.to) (some true) (ab (aB j.form.jump.eR j.form.jump.to) (some true) (some (ai j.form.bars j.form.jump.eR))))))) λ(B:Bool)=>ab B (some false) (aa (aa (uW n (j,j.form.jump.at_)) λk=>ab (!k) (aa (uW n (j,j.form.jump.to)) λF=>ab (!F) (aa (uW n (j,j.form.jump.eR)) λG=>some (!G)) (some false)) (some false)) λ(k:Bool)=>some k))
noncomputable def Qw:=ak (qk [.st 41] [.bool] [QA] [] Tryz.func151) F7
noncomputable def zf(n:Nat):(Order×Cut)→Option Bool:=λ(k,j)=>aa (ab (aB 0 j.from_) (ab (ai j.from_ j.cW) (ab (aB j.cW k.form.bars) (ab (aB 0 j.pass) (some (aB j.pass 20)) (some false)) (some false)) (some false)) (some false)) λ(B:Bool)=>some B
noncomputable def Es:=ak (qk [.st 41,.st 14] [.bool] [] [] Tryz.func239) zf
noncomputable def F1(n:Nat):Order→Option Bool:=λ(k)=>aT (aN n (λj:(Int×(List (Cut×Bool)))=>ab (ai j.1 (k.form.cS.length:Int)) (aa (aA k.form.cS j.1) λB=>aa (aa (zf n (k,B)) λF=>ab (!F) (some true) (some (jy (.st 14) j.2 B false))) λ(F:Bool)=>ab F (some (.inr (.inr false))) (ag (an (j.1+1)) <|some (.inl ((j.1+1),(iV (.st 14) j.2 B true))))) (some (.inr (.inl ())))) (0,([]:List (Cut×Bool)))) λ(j:Unit)=>some (aB (k.form.cS.length:Int) 100)
noncomputable def Qr:=ak (qk [.st 41] [.bool] [Es] [] Tryz.func152) F1
noncomputable def zg(n:Nat):Order→Option Order:=λ(j)=>some j
noncomputable def Eu:=ak (qk [.st 41] [.ar 263 (.box (.st 41))] [] [] Tryz.func181) zg
noncomputable def rn(n:Nat):(Order×(Int×(Int×Bool)))→Option (Int×(Int×(Order×Bool))):=λ(j,k,B,F)=>some (k,(B,(j,F)))
noncomputable def Er:=ak (qk [.st 41,tI,tI,.bool] [.ar 322 (.aw (.box tI) (.aw (.box tI) (.aw (.box (.st 41)) (.box (.bool)))))] [] [] Tryz.func265) rn
noncomputable def F6(n:Nat):(Ending×(Int×Int))→Option Bool:=λ(j,k,B)=>aa (ab (aB j.from_ k) (ab (ai k j.cW) (some (!(aj j.pass B))) (some false)) (some false)) λ(F:Bool)=>some F
noncomputable def Qv:=ak (qk [.st 12,.box tI,.box tI] [.bool] [] [] Tryz.func355) F6
noncomputable def GV(n:Nat):((List Ending)×(Int×Int))→Option Int:=λ(k,B)=>aT (aN n (λj:Int=>ab (ai j (k.length:Int)) (aa (aA k j) λF=>aa (F6 n (F,(B.1,B.2))) λG=>ab G (some (.inr (.inr j))) (ag (an (j+1)) <|some (.inl (j+1)))) (some (.inr (.inl ())))) 0) λ(j:Unit)=>some (-1)
noncomputable def Rp:=ak (qk [.list (.st 12),.ar 355 (.aw (.box tI) (.box tI))] [tI] [Qv] [] Tryz.func380) GV
noncomputable def Gy(n:Nat):((List Ending)×(Int×Int))→Option Bool:=λ(j,k)=>aa (GV n (j,k)) λB=>some (aB 0 B)
noncomputable def Q2:=ak (qk [.list (.st 12),.ar 355 (.aw (.box tI) (.box tI))] [.bool] [Rp] [] Tryz.func354) Gy
noncomputable def rp(n:Nat):(Order×(Int×Int))→Option Bool:=λ(j,k,B)=>aa (Gy n (j.form.dt,(k,B))) λF=>some F
noncomputable def Et:=ak (qk [.st 41,tI,tI] [.bool] [Q2] [] Tryz.func324) rp
noncomputable def F8(n:Nat):Order→Option Bool:=λ(ad)=>aT (aa (zg n ad) λY=>aa (ab (aj Y.form.jump.at_ 0) (some Y.form.bars) (some Y.form.jump.at_)) λ(ae:Int)=>aT (aa (rn n (Y,(0,(ae,true)))) λO=>aN n (λF:(Int×((List (Int×Int))×Int))=>ab (ai F.2.2 O.2.1) (aT (aa (aT (aN n (λk:Int=>ab (ai k (O.2.2.1.form.cj.length:Int)) (aa (aA O.2.2.1.form.cj k) λG=>ab (aj G.from_ F.2.2) (some (.inr (.inr k))) (ag (an (k+1)) <|some (.inl (k+1)))) (some (.inr (.inl ())))) 0) λ(k:Unit)=>some (-1)) λ(k:Int)=>ab (ai k 0) (ag (an ((aZ F.2.1 F.2.2 0)+1)) <|ag (an (F.1+1)) <|ab (ai 20000 (F.1+1)) (some (.inr (.inr (.inr (.inr false))))) (some (.inl ((F.1+1),((bc F.2.1 F.2.2 ((aZ F.2.1 F.2.2 0)+1)),F.2.2))))) (aa (aA O.2.2.1.form.cj k) λG=>aa (ab O.2.2.2 (some 1) (some G.times)) λ(U:Int)=>aT (aN n (λM:(Int×(Int×(List (Int×Int))))=>ab (aB M.1 G.times) (aT (aN n (λj:(Int×(Int×(List (Int×Int))))=>ab (ai j.1 G.cW) (aT (aa (rp n (O.2.2.1,(j.1,M.1))) λB=>ab (!B) (ag (an ((aZ j.2.2 j.1 0)+1)) <|ag (an (j.2.1+1)) <|ab (ai 20000 (j.2.1+1)) (some (.inr (.inr (.inr (.inr (.inr (.inr (.inr (.inr (.inr false)))))))))) (some (.inl ((j.2.1+1),(bc j.2.2 j.1 ((aZ j.2.2 j.1 0)+1)))))) (some (.inl (j.2.1,j.2.2)))) λ(B:(Int×(List (Int×Int))))=>ag (an (j.1+1)) <|some (.inl ((j.1+1),(B.1,B.2)))) (some (.inr (.inl (j.2.1,j.2.2))))) (G.from_,(M.2.1,M.2.2))) λ(j:(Int×(List (Int×Int))))=>ag (an (M.1+1)) <|some (.inl ((M.1+1),(j.1,j.2)))) (some (.inr (.inl (M.2.1,M.2.2))))) (U,(F.1,F.2.1))) λ(M:(Int×(List (Int×Int))))=>ag (an (G.cW-1)) <|some (.inl (M.1,(M.2,(G.cW-1)))))) λ(k:(Int×((List (Int×Int))×Int)))=>ag (an (k.2.2+1)) <|some (.inl (k.1,(k.2.1,(k.2.2+1))))) (some (.inr (.inl (F.1,F.2.1))))) (0,(([]:List (Int×Int)),O.1))) λ(O:(Int×(List (Int×Int))))=>aa (rn n (Y,(Y.form.jump.to,(Y.form.jump.eR,false)))) λF=>aN n (λk:(Int×((List (Int×Int))×Int))=>ab (ai k.2.2 F.2.1) (aT (aa (aT (aN n (λG:Int=>ab (ai G (F.2.2.1.form.cj.length:Int)) (aa (aA F.2.2.1.form.cj G) λU=>ab (aj U.from_ k.2.2) (some (.inr (.inr G))) (ag (an (G+1)) <|some (.inl (G+1)))) (some (.inr (.inl ())))) 0) λ(G:Unit)=>some (-1)) λ(G:Int)=>ab (ai G 0) (ag (an ((aZ k.2.1 k.2.2 0)+1)) <|ag (an (k.1+1)) <|ab (ai 20000 (k.1+1)) (some (.inr (.inr (.inr false)))) (some (.inl ((k.1+1),((bc k.2.1 k.2.2 ((aZ k.2.1 k.2.2 0)+1)),k.2.2))))) (aa (aA F.2.2.1.form.cj G) λU=>aa (ab F.2.2.2 (some 1) (some U.times)) λ(M:Int)=>aT (aN n (λj:(Int×(Int×(List (Int×Int))))=>ab (aB j.1 U.times) (aT (aN n (λB:(Int×(Int×(List (Int×Int))))=>ab (ai B.1 U.cW) (aT (aa (rp n (F.2.2.1,(B.1,j.1))) λZ=>ab (!Z) (ag (an ((aZ B.2.2 B.1 0)+1)) <|ag (an (B.2.1+1)) <|ab (ai 20000 (B.2.1+1)) (some (.inr (.inr (.inr (.inr (.inr (.inr (.inr (.inr false))))))))) (some (.inl ((B.2.1+1),(bc B.2.2 B.1 ((aZ B.2.2 B.1 0)+1)))))) (some (.inl (B.2.1,B.2.2)))) λ(Z:(Int×(List (Int×Int))))=>ag (an (B.1+1)) <|some (.inl ((B.1+1),(Z.1,Z.2)))) (some (.inr (.inl (B.2.1,B.2.2))))) (U.from_,(j.2.1,j.2.2))) λ(B:(Int×(List (Int×Int))))=>ag (an (j.1+1)) <|some (.inl ((j.1+1),(B.1,B.2)))) (some (.inr (.inl (j.2.1,j.2.2))))) (M,(k.1,k.2.1))) λ(j:(Int×(List (Int×Int))))=>ag (an (U.cW-1)) <|some (.inl (j.1,(j.2,(U.cW-1)))))) λ(G:(Int×((List (Int×Int))×Int)))=>ag (an (G.2.2+1)) <|some (.inl (G.1,(G.2.1,(G.2.2+1))))) (some (.inr (.inl ())))) (O.1,(O.2,F.1))) λ(Y:Unit)=>some true
noncomputable def Qy:=ak (qk [.st 41] [.bool] [Eu,Er,Et] [] Tryz.func153) F8
noncomputable def pv(n:Nat):Form→Option Bool:=λ(j)=>aa (ab (aB 1 j.bars) (ab (aB j.bars 4000) (aa (F5 n (⟨j⟩:Order)) λk=>ab k (aa (F3 n (⟨j⟩:Order)) λB=>ab B (aa (F7 n (⟨j⟩:Order)) λF=>ab F (aa (F1 n (⟨j⟩:Order)) λG=>ab G (aa (F8 n (⟨j⟩:Order)) λM=>some M) (some false)) (some false)) (some false)) (some false)) (some false)) (some false)) λ(k:Bool)=>some k
noncomputable def ri:=ak (qk [.st 15] [.bool] [Qu,Qs,Qw,Qr,Qy] [] Tryz.func82) pv
noncomputable def yO(n:Nat):(List c8)→Option Bool:=λ(B)=>aT (aN n (λk:(Int×Int)=>ab (ai k.2 (B.length:Int)) (aa (aA B k.2) λj=>aa (ab (aB j.score.version k.1) (some true) (ab (ai 1000000 j.score.version) (some true) (ab (!(aj j.form.bars (j.score.bars.length:Int))) (some true) (aa (pv n j.form) λF=>some (!F))))) λ(F:Bool)=>ab F (some (.inr (.inr false))) (ag (an (k.2+1)) <|some (.inl (j.score.version,(k.2+1))))) (some (.inr (.inl ())))) (0,0)) λ(k:Unit)=>aa (ab (aB 1 (B.length:Int)) (some (aB (B.length:Int) 100)) (some false)) λ(j:Bool)=>some j
noncomputable def DX:=ak (qk [.list (.st 17)] [.bool] [ri] [] Tryz.func92) yO
noncomputable def uI(n:Nat):Int→Option Bool:=λ(j)=>aa (ab (aB 0 j) (some (aB j 1000000000)) (some false)) λ(k:Bool)=>some k
noncomputable def DY:=ak (qk [tI] [.bool] [] [] Tryz.func52) uI
noncomputable def uJ(n:Nat):((List Decision)×(Int×Int))→Option ((List Decision)×(Int×Int)):=λ(j,k,B)=>some (j,(k,B))
noncomputable def DZ:=ak (qk [.list (.st 24),tI,tI] [.ar 169 (.aw (.box (.list (.st 24))) (.aw (.box tI) (.box tI)))] [] [] Tryz.func94) uJ
noncomputable def Hc(n:Nat):((List Cut)×Cut)→Option Int:=λ(k,B)=>aT (aN n (λj:Int=>ab (ai j (k.length:Int)) (aa (aA k j) λF=>ab (Kx B F) (some (.inr (.inr j))) (ag (an (j+1)) <|some (.inl (j+1)))) (some (.inr (.inl ())))) 0) λ(j:Unit)=>some (-1)
noncomputable def RH:=ak (qk [.list (.st 14),.st 14] [tI] [] [] Tryz.func257) Hc
noncomputable def GN(n:Nat):((List Cut)×Cut)→Option Bool:=λ(j,k)=>aa (Hc n (j,k)) λB=>some (aB 0 B)
noncomputable def Rh:=ak (qk [.list (.st 14),.st 14] [.bool] [RH] [] Tryz.func255) GN
noncomputable def uV(n:Nat):(Form×Cut)→Option (Form×Int):=λ(j,k)=>aa (aa (pv n j) λF=>ab (!F) (some true) (aa (zf n ((⟨j⟩:Order),k)) λG=>some (!G))) λ(F:Bool)=>ab F (some ((⟨0,([]:List Repeat),([]:List Ending),(⟨0,0,0⟩:Jump),([]:List Cut)⟩:Form),1)) (aa (GN n (j.cS,k)) λG=>ab G (some ((⟨0,([]:List Repeat),([]:List Ending),(⟨0,0,0⟩:Jump),([]:List Cut)⟩:Form),5)) (ab (aj (j.cS.length:Int) 100) (some ((⟨0,([]:List Repeat),([]:List Ending),(⟨0,0,0⟩:Jump),([]:List Cut)⟩:Form),2)) (aa (ag (decide ((List.append ([]:List Repeat) j.cj).length*24≤140737488355328∧(List.append ([]:List Repeat) j.cj).length≤9223372036854775807)) <|some (List.append ([]:List Repeat) j.cj)) λ(M:(List Repeat))=>aa (ag (decide ((List.append ([]:List Ending) j.dt).length*24≤140737488355328∧(List.append ([]:List Ending) j.dt).length≤9223372036854775807)) <|some (List.append ([]:List Ending) j.dt)) λ(O:(List Ending))=>aa (ag (decide ((List.append ([]:List Cut) j.cS).length*24≤140737488355328∧(List.append ([]:List Cut) j.cS).length≤9223372036854775807)) <|some (List.append ([]:List Cut) j.cS)) λ(B:(List Cut))=>ag (decide ((List.append B (k::([]:List Cut))).length*24≤140737488355328∧(List.append B (k::([]:List Cut))).length≤9223372036854775807)) <|some ((⟨j.bars,M,O,j.jump,(List.append B (k::([]:List Cut)))⟩:Form),0))))
noncomputable def Eo:=ak (qk [.st 15,.st 14] [.st 15,tI] [ri,Es,Rh] [] Tryz.func174) uV
noncomputable def yN(n:Nat):((List c8)×(List Decision))→Option Bool:=λ(ad,U)=>aa (aa (aa (yO n ad) λY=>ab (!Y) (some true) (some (ai 1000 (U.length:Int)))) λ(Y:Bool)=>ab Y (some false) (aT (aN n (λO:(Int×Int)=>ab (ai O.2 (U.length:Int)) (aa (aA U O.2) λB=>aa (ag (an (O.2+1)) <|ab (!(aj B.number (O.2+1))) (some true) (ab (ai B.time O.1) (some true) (aa (uI n B.time) λZ=>some (!Z)))) λ(Z:Bool)=>ab Z (some (.inr (.inr false))) (ag (an (O.2+1)) <|some (.inl (B.time,(O.2+1))))) (some (.inr (.inl ())))) (0,0)) λ(O:Unit)=>aa (aa (aA ad 0) λB=>aa (ag (decide ((List.append ([]:List Repeat) B.form.cj).length*24≤140737488355328∧(List.append ([]:List Repeat) B.form.cj).length≤9223372036854775807)) <|some (List.append ([]:List Repeat) B.form.cj)) λ(Z:(List Repeat))=>aa (ag (decide ((List.append ([]:List Ending) B.form.dt).length*24≤140737488355328∧(List.append ([]:List Ending) B.form.dt).length≤9223372036854775807)) <|some (List.append ([]:List Ending) B.form.dt)) λ(ae:(List Ending))=>aa (ag (decide ((List.append ([]:List Cut) B.form.cS).length*24≤140737488355328∧(List.append ([]:List Cut) B.form.cS).length≤9223372036854775807)) <|some (List.append ([]:List Cut) B.form.cS)) λ(af:(List Cut))=>aT (aa (uJ n (U,((U.length:Int),1000000000))) λG=>aN n (λj:(Int×(Bool×(Int×(Int×((List Repeat)×((List Ending)×(Int×(Int×(Int×((List Cut)×((List Int)×(List c8))))))))))))=>ab (ai j.1 (G.1.length:Int)) (aa (aA G.1 j.1) λM=>aT (ab (ai G.2.1 M.number) (some (.inl (true,(j.2.2.2.1,(j.2.2.2.2.1,(j.2.2.2.2.2.1,(j.2.2.2.2.2.2.1,(j.2.2.2.2.2.2.2.1,(j.2.2.2.2.2.2.2.2.1,j.2.2.2.2.2.2.2.2.2.1))))))))) (ab (ai G.2.2 M.time) (some (.inl (true,(j.2.2.2.1,(j.2.2.2.2.1,(j.2.2.2.2.2.1,(j.2.2.2.2.2.2.1,(j.2.2.2.2.2.2.2.1,(j.2.2.2.2.2.2.2.2.1,j.2.2.2.2.2.2.2.2.2.1))))))))) (aa (ab (aj M.kind 1) (none) (ab (aj M.kind 2) (aa (uV n ((⟨j.2.2.2.1,j.2.2.2.2.1,j.2.2.2.2.2.1,(⟨j.2.2.2.2.2.2.1,j.2.2.2.2.2.2.2.1,j.2.2.2.2.2.2.2.2.1⟩:Jump),j.2.2.2.2.2.2.2.2.2.1⟩:Form),(⟨M.a,M.b,M.c⟩:Cut))) λk=>aa (aa (ab (aj k.2 0) (some (k.1.bars,(k.1.cj,(k.1.dt,(k.1.jump.at_,(k.1.jump.to,(k.1.jump.eR,k.1.cS))))))) (some (j.2.2.2.1,(j.2.2.2.2.1,(j.2.2.2.2.2.1,(j.2.2.2.2.2.2.1,(j.2.2.2.2.2.2.2.1,(j.2.2.2.2.2.2.2.2.1,j.2.2.2.2.2.2.2.2.2.1)))))))) λ(F:(Int×((List Repeat)×((List Ending)×(Int×(Int×(Int×(List Cut))))))))=>some (F.1,(F.2.1,(F.2.2.1,(F.2.2.2.1,(F.2.2.2.2.1,(F.2.2.2.2.2.1,F.2.2.2.2.2.2))))))) λ(F:(Int×((List Repeat)×((List Ending)×(Int×(Int×(Int×(List Cut))))))))=>some (k.2,(F.1,(F.2.1,(F.2.2.1,(F.2.2.2.1,(F.2.2.2.2.1,(F.2.2.2.2.2.1,F.2.2.2.2.2.2)))))))) (ab (aj M.kind 3) (none) (ab (aj M.kind 4) (none) (ab (aj M.kind 5) (none) (some (1,(j.2.2.2.1,(j.2.2.2.2.1,(j.2.2.2.2.2.1,(j.2.2.2.2.2.2.1,(j.2.2.2.2.2.2.2.1,(j.2.2.2.2.2.2.2.2.1,j.2.2.2.2.2.2.2.2.2.1))))))))))))) λ(k:(Int×(Int×((List Repeat)×((List Ending)×(Int×(Int×(Int×(List Cut)))))))))=>ab (!(aj k.1 0)) (some (.inr (.inr (.inr (false,(j.2.2.1,(k.2.1,(k.2.2.1,(k.2.2.2.1,(k.2.2.2.2.1,(k.2.2.2.2.2.1,(k.2.2.2.2.2.2.1,(k.2.2.2.2.2.2.2,(j.2.2.2.2.2.2.2.2.2.2.1,j.2.2.2.2.2.2.2.2.2.2.2)))))))))))))) (some (.inl (false,(k.2.1,(k.2.2.1,(k.2.2.2.1,(k.2.2.2.2.1,(k.2.2.2.2.2.1,(k.2.2.2.2.2.2.1,k.2.2.2.2.2.2.2)))))))))))) λ(k:(Bool×(Int×((List Repeat)×((List Ending)×(Int×(Int×(Int×(List Cut)))))))))=>ab k.1 (some (.inr (.inl (j.2.1,(j.2.2.1,(k.2.1,(k.2.2.1,(k.2.2.2.1,(k.2.2.2.2.1,(k.2.2.2.2.2.1,(k.2.2.2.2.2.2.1,(k.2.2.2.2.2.2.2,(j.2.2.2.2.2.2.2.2.2.2.1,j.2.2.2.2.2.2.2.2.2.2.2))))))))))))) (ag (an (j.1+1)) <|some (.inl ((j.1+1),(j.2.1,(j.2.2.1,(k.2.1,(k.2.2.1,(k.2.2.2.1,(k.2.2.2.2.1,(k.2.2.2.2.2.1,(k.2.2.2.2.2.2.1,(k.2.2.2.2.2.2.2,(j.2.2.2.2.2.2.2.2.2.2.1,j.2.2.2.2.2.2.2.2.2.2.2)))))))))))))) (some (.inr (.inl (j.2.1,(j.2.2.1,(j.2.2.2.1,(j.2.2.2.2.1,(j.2.2.2.2.2.1,(j.2.2.2.2.2.2.1,(j.2.2.2.2.2.2.2.1,(j.2.2.2.2.2.2.2.2.1,(j.2.2.2.2.2.2.2.2.2.1,(j.2.2.2.2.2.2.2.2.2.2.1,j.2.2.2.2.2.2.2.2.2.2.2)))))))))))))) (0,(false,(B.score.version,(B.form.bars,(Z,(ae,(B.form.jump.at_,(B.form.jump.to,(B.form.jump.eR,(af,(([]:List Int),ad)))))))))))) λ(G:(Bool×(Int×(Int×((List Repeat)×((List Ending)×(Int×(Int×(Int×((List Cut)×((List Int)×(List c8))))))))))))=>some (true,(G.2.1,(G.2.2.1,(G.2.2.2.1,(G.2.2.2.2.1,(G.2.2.2.2.2.1,(G.2.2.2.2.2.2.1,(G.2.2.2.2.2.2.2.1,(G.2.2.2.2.2.2.2.2.1,(G.2.2.2.2.2.2.2.2.2.1,G.2.2.2.2.2.2.2.2.2.2))))))))))) λ(B:(Bool×(Int×(Int×((List Repeat)×((List Ending)×(Int×(Int×(Int×((List Cut)×((List Int)×(List c8))))))))))))=>some B.1)) λ(Y:Bool)=>some Y
noncomputable def DW:=ak (yI [.list (.st 17),.list (.st 24)] [.bool] [DX,DY,DZ,Eo] [] Tryz.func33) yN
noncomputable def jD(n:Nat):(Int×(Int×Int))→Option Bool:=λ(j,k,B)=>aa (ab (aB k j) (some (aB j B)) (some false)) λ(F:Bool)=>some F
noncomputable def rj:=ak (qk [tI,tI,tI] [.bool] [] [] Tryz.func223) jD
noncomputable def uY(n:Nat):Int→Option Bool:=λ(j)=>aa (jD n (j,(1,1000000))) λk=>some k
noncomputable def yF:=ak (qk [tI] [.bool] [rj] [] Tryz.func142) uY
noncomputable def FH(n:Nat):Rat→Option Bool:=λ(j)=>aa (aa (jC n j) λk=>ab k (ab (aB 0 j.n) (ag (!(aj j.d 0)) <|some (aj (Int.tmod 1680 j.d) 0)) (some false)) (some false)) λ(k:Bool)=>some k
noncomputable def P0:=ak (qk [.st 4] [.bool] [me] [] Tryz.func224) FH
noncomputable def FI(n:Nat):(Rat×Rat)→Option Bool:=λ(j,k)=>aa (rm n (j,k)) λB=>some (ai B.1 0)
noncomputable def P1:=ak (qk [.st 4,.st 4] [.bool] [yE] [] Tryz.func225) FI
noncomputable def uT(n:Nat):(List dG)→Option Bool:=λ(B)=>aT (aN n (λk:(Int×(List (Int×Bool)))=>ab (ai k.1 (B.length:Int)) (aa (aA B k.1) λj=>aa (ab (ai j.id 1) (some true) (ab (ai 1000000 j.id) (some true) (ab (aZ k.2 j.id false) (some true) (ab (ai j.key (-7)) (some true) (some (ai 7 j.key)))))) λ(G:Bool)=>ab G (some (.inr (.inr false))) (aa (aa (FH n j.length) λF=>ab (!F) (some true) (ab (aj j.length.n 0) (some true) (aa (FI n ((⟨24,1⟩:Rat),j.length)) λM=>some M))) λ(F:Bool)=>ab F (some (.inr (.inr false))) (ag (an (k.1+1)) <|some (.inl ((k.1+1),(bc k.2 j.id true)))))) (some (.inr (.inl ())))) (0,([]:List (Int×Bool)))) λ(k:Unit)=>aa (ab (aB 1 (B.length:Int)) (some (aB (B.length:Int) 4000)) (some false)) λ(j:Bool)=>some j
noncomputable def yA:=ak (qk [.list (.st 5)] [.bool] [P0,P1] [] Tryz.func143) uT
noncomputable def y5(n:Nat):Interval→Option Bool:=λ(k)=>aa (aa (pt n (k.steps,((-70),70))) λj=>ab j (aa (pt n (k.fm,((-120),120))) λB=>some B) (some false)) λ(j:Bool)=>some j
noncomputable def Ei:=ak (qk [.st 6] [.bool] [Ek] [] Tryz.func333) y5
noncomputable def pr(n:Nat):Interval→Option (Interval×Int):=λ(j)=>aa (y5 n j) λk=>ab (!k) (some ((⟨0,0⟩:Interval),1)) (ag (an (jz j.steps)) <|ag (an (jz j.fm)) <|some ((⟨(jz j.steps),(jz j.fm)⟩:Interval),0))
noncomputable def uG:=ak (qk [.st 6] [.st 6,tI] [Ei] [] Tryz.func284) pr
noncomputable def Fa(n:Nat):Interval→Option Bool:=λ(j)=>aa (pr n j) λk=>some (aj k.2 0)
noncomputable def Pt:=ak (qk [.st 6] [.bool] [uG] [] Tryz.func370) Fa
noncomputable def uO(n:Nat):Interval→Option (Int×Int):=λ(j)=>aa (Fa n j) λk=>ab (!k) (some (0,1)) (ag (an (7*j.fm)) <|ag (an (12*j.steps)) <|ag (an ((7*j.fm)-(12*j.steps))) <|some (((7*j.fm)-(12*j.steps)),0))
noncomputable def yx:=ak (qk [.st 6] [tI,tI] [Pt] [] Tryz.func350) uO
noncomputable def zm(n:Nat):Interval→Option Bool:=λ(j)=>aa (uO n j) λB=>aa (ab (aj B.2 0) (aa (jD n (j.steps,((-21),21))) λk=>ab k (aa (jD n (j.fm,((-36),36))) λF=>ab F (aa (jD n (B.1,((-12),12))) λG=>some G) (some false)) (some false)) (some false)) λ(k:Bool)=>some k
noncomputable def QV:=ak (qk [.st 6] [.bool] [yx,rj] [] Tryz.func307) zm
noncomputable def pw(n:Nat):bT→Option Int:=λ(j)=>aa (nO n j) λk=>some k.1
noncomputable def Ey:=ak (qk [.st 7] [tI] [rh] [] Tryz.func233) pw
noncomputable def Gp(n:Nat):Part→Option Bool:=λ(j)=>aa (aa (uY n j.id) λM=>ab M (aa (jD n (j.vo,(0,99))) λk=>ab k (aa (jD n (j.of,(0,1000000))) λB=>ab B (aa (jD n (j.cJ,((-2),2))) λF=>ab F (aa (jD n (j.sS,(1,40))) λG=>some G) (some false)) (some false)) (some false)) (some false)) λ(M:Bool)=>aa (ab (!M) (some true) (ab (aj j.of j.id) (some true) (ab (aj j.of 0) (ab (!(aj j.cJ 0)) (some true) (aa (zm n j.shift) λk=>some (!k))) (aa (zm n j.shift) λk=>some (!k))))) λ(k:Bool)=>ab k (some false) (aa (aa (iq n j.low) λB=>ab B (aa (iq n j.high) λF=>ab F (aa (pw n j.low) λG=>aa (pw n j.high) λO=>some (aB G O)) (some false)) (some false)) λ(B:Bool)=>some B)
noncomputable def QS:=ak (qk [.st 8] [.bool] [yF,rj,QV,lr,Ey] [] Tryz.func226) Gp
noncomputable def Gj(n:Nat):(Part×(List (Int×Part)))→Option Bool:=λ(j,k)=>aa (ab (!(aj j.of 0)) (ab (!(dO k j.of)) (some true) (some (!(aj (aZ k j.of (⟨0,0,0,0,0,(⟨0,0⟩:Interval),(⟨0,0,0⟩:bT),(⟨0,0,0⟩:bT)⟩:Part)).of 0)))) (some false)) λ(B:Bool)=>some B
noncomputable def QN:=ak (qk [.st 8,.box (.map tI (.st 8))] [.bool] [] [] Tryz.func227) Gj
noncomputable def GZ(n:Nat):((List Part)×(List (Int×Part)))→Option Int:=λ(k,B)=>aT (aN n (λj:Int=>ab (ai j (k.length:Int)) (aa (aA k j) λF=>aa (Gj n (F,B)) λG=>ab G (some (.inr (.inr j))) (ag (an (j+1)) <|some (.inl (j+1)))) (some (.inr (.inl ())))) 0) λ(j:Unit)=>some (-1)
noncomputable def Rt:=ak (qk [.list (.st 8),.ar 227 (.box (.map tI (.st 8)))] [tI] [QN] [] Tryz.func192) GZ
noncomputable def GC(n:Nat):((List Part)×(List (Int×Part)))→Option Bool:=λ(j,k)=>aa (GZ n (j,k)) λB=>some (aB 0 B)
noncomputable def Q6:=ak (qk [.list (.st 8),.ar 227 (.box (.map tI (.st 8)))] [.bool] [Rt] [] Tryz.func228) GC
noncomputable def Gi(n:Nat):(List Part)→Option Bool:=λ(B)=>aa (jD n ((B.length:Int),(1,60))) λF=>ab (!F) (some false) (aT (aN n (λj:(Int×(List (Int×Part)))=>ab (ai j.1 (B.length:Int)) (aa (aA B j.1) λk=>aa (Gp n k) λG=>ab (!G) (some (.inr (.inr false))) (ag (an (j.1+1)) <|some (.inl ((j.1+1),(bc j.2 k.id k))))) (some (.inr (.inl j.2)))) (0,([]:List (Int×Part)))) λ(j:(List (Int×Part)))=>aa (ab (aj (j.length:Int) (B.length:Int)) (aa (GC n (B,j)) λk=>some (!k)) (some false)) λ(k:Bool)=>some k)
noncomputable def QM:=ak (qk [.list (.st 8)] [.bool] [rj,QS,Q6] [] Tryz.func144) Gi
noncomputable def y1(n:Nat):(List dG)→Option (List (Int×Int)):=λ(k)=>aa (aN n (λj:(Int×(List (Int×Int)))=>ab (ai j.1 (k.length:Int)) (aa (aA k j.1) λB=>ag (an (j.1+1)) <|some (.inl ((j.1+1),(bc j.2 B.id j.1)))) (some (.inr j.2))) (0,([]:List (Int×Int)))) λ(j:(List (Int×Int)))=>some j
noncomputable def Ef:=ak (qk [.list (.st 5)] [.map tI tI] [] [] Tryz.func229) y1
noncomputable def pq(n:Nat):(Int×(Int×Int))→Option Bool:=λ(j,k,B)=>aa (ab (aB k j) (some (aB j B)) (some false)) λ(F:Bool)=>some F
noncomputable def yC:=ak (qk [tI,tI,tI] [.bool] [] [] Tryz.func310) pq
noncomputable def y2(n:Nat):Int→Option Bool:=λ(j)=>aa (pq n (j,(1,1000000))) λk=>some k
noncomputable def P4:=ak (qk [tI] [.bool] [yC] [] Tryz.func309) y2
noncomputable def FL(n:Nat):bT→Option Bool:=λ(j)=>aa (aa (iq n j) λk=>ab k (aa (pq n (j.alter,((-2),2))) λB=>ab B (aa (pq n (j.cJ,(0,9))) λF=>some F) (some false)) (some false)) λ(k:Bool)=>some k
noncomputable def P5:=ak (qk [.st 7] [.bool] [lr,yC] [] Tryz.func311) FL
noncomputable def FK(n:Nat):(dG×aV)→Option Bool:=λ(G,j)=>aa (po n j.start) λB=>aa (po n j.length) λk=>aa (po n G.length) λM=>aa (ab B.2 (ab k.2 (ab (ai 0 k.1) (ag (an (B.1+k.1)) <|ab (aB (B.1+k.1) M.1) (aa (y2 n j.id) λF=>ab F (aa (y2 n j.part) λO=>ab O (aa (pq n (j.ek,(0,9))) λU=>ab U (aa (pq n (j.eX,(0,20))) λY=>ab Y (aa (FL n j.bP) λZ=>some Z) (some false)) (some false)) (some false)) (some false)) (some false)) (some false)) (some false)) (some false)) λ(F:Bool)=>some F
noncomputable def P3:=ak (qk [.st 5,.st 9] [.bool] [Eg,P4,yC,P5] [] Tryz.func230) FK
noncomputable def yZ(n:Nat):((List dG)×(List aV))→Option Bool:=λ(B,F)=>aa (aa (uT n B) λM=>ab (!M) (some true) (some (ai 20000 (F.length:Int)))) λ(M:Bool)=>ab M (some false) (aa (y1 n B) λO=>aT (aN n (λj:(Int×(List (Int×Bool)))=>ab (ai j.1 (F.length:Int)) (aa (aA F j.1) λk=>aa (ab (!(dO O k.bG)) (some true) (ab (aZ j.2 k.id false) (some true) (aa (aA B (aZ O k.bG 0)) λG=>aa (FK n (G,k)) λU=>some (!U)))) λ(G:Bool)=>ab G (some (.inr (.inr false))) (ag (an (j.1+1)) <|some (.inl ((j.1+1),(bc j.2 k.id true))))) (some (.inr (.inl ())))) (0,([]:List (Int×Bool)))) λ(j:Unit)=>some true)
noncomputable def Ee:=ak (qk [.list (.st 5),.list (.st 9)] [.bool] [yA,Ef,P3] [] Tryz.func145) yZ
noncomputable def Gu(n:Nat):(aV×(List (Int×Part)))→Option Bool:=λ(j,k)=>some (!(dO k j.part))
noncomputable def QX:=ak (qk [.st 9,.box (.map tI (.st 8))] [.bool] [] [] Tryz.func231) Gu
noncomputable def GX(n:Nat):((List aV)×(List (Int×Part)))→Option Int:=λ(k,B)=>aT (aN n (λj:Int=>ab (ai j (k.length:Int)) (aa (aA k j) λF=>aa (Gu n (F,B)) λG=>ab G (some (.inr (.inr j))) (ag (an (j+1)) <|some (.inl (j+1)))) (some (.inr (.inl ())))) 0) λ(j:Unit)=>some (-1)
noncomputable def Rr:=ak (qk [.list (.st 9),.ar 231 (.box (.map tI (.st 8)))] [tI] [QX] [] Tryz.func312) GX
noncomputable def GA(n:Nat):((List aV)×(List (Int×Part)))→Option Bool:=λ(j,k)=>aa (GX n (j,k)) λB=>some (aB 0 B)
noncomputable def Q4:=ak (qk [.list (.st 9),.ar 231 (.box (.map tI (.st 8)))] [.bool] [Rr] [] Tryz.func234) GA
noncomputable def Gv(n:Nat):(aV×(List (Int×Part)))→Option Bool:=λ(j,k)=>aa (pw n j.bP) λB=>aa (pw n (aZ k j.part (⟨0,0,0,0,0,(⟨0,0⟩:Interval),(⟨0,0,0⟩:bT),(⟨0,0,0⟩:bT)⟩:Part)).low) λF=>aa (pw n (aZ k j.part (⟨0,0,0,0,0,(⟨0,0⟩:Interval),(⟨0,0,0⟩:bT),(⟨0,0,0⟩:bT)⟩:Part)).high) λG=>aa (jD n (B,(F,G))) λM=>some (!M)
noncomputable def QY:=ak (qk [.st 9,.box (.map tI (.st 8))] [.bool] [Ey,rj] [] Tryz.func232) Gv
noncomputable def GY(n:Nat):((List aV)×(List (Int×Part)))→Option Int:=λ(k,B)=>aT (aN n (λj:Int=>ab (ai j (k.length:Int)) (aa (aA k j) λF=>aa (Gv n (F,B)) λG=>ab G (some (.inr (.inr j))) (ag (an (j+1)) <|some (.inl (j+1)))) (some (.inr (.inl ())))) 0) λ(j:Unit)=>some (-1)
noncomputable def Rs:=ak (qk [.list (.st 9),.ar 232 (.box (.map tI (.st 8)))] [tI] [QY] [] Tryz.func312) GY
noncomputable def GB(n:Nat):((List aV)×(List (Int×Part)))→Option Bool:=λ(j,k)=>aa (GY n (j,k)) λB=>some (aB 0 B)
noncomputable def Q5:=ak (qk [.list (.st 9),.ar 232 (.box (.map tI (.st 8)))] [.bool] [Rs] [] Tryz.func234) GB
noncomputable def Gt(n:Nat):((List Part)×(List aV))→Option Int:=λ(B,F)=>aa (aN n (λj:(Int×(List (Int×Part)))=>ab (ai j.1 (B.length:Int)) (aa (aa (aA B j.1) λk=>ab (aj k.of 0) (some (bc j.2 k.id k)) (some j.2)) λ(k:(List (Int×Part)))=>ag (an (j.1+1)) <|some (.inl ((j.1+1),k))) (some (.inr j.2))) (0,([]:List (Int×Part)))) λ(j:(List (Int×Part)))=>aa (GA n (F,j)) λk=>ab k (some 22) (aa (GB n (F,j)) λG=>ab G (some 20) (some 0))
noncomputable def QW:=ak (qk [.list (.st 8),.list (.st 9)] [tI] [Q4,Q5] [] Tryz.func146) Gt
noncomputable def FM(n:Nat):((List dG)×(List aV))→Option (List aV):=λ(k,j)=>aa (y1 n k) λB=>aa (ag (decide ((List.append ([]:List aV) j).length*96≤140737488355328∧(List.append ([]:List aV) j).length≤9223372036854775807)) <|some (List.append ([]:List aV) j)) λ(F:(List aV))=>aa (Hg n (F,B)) λG=>some G
noncomputable def P6:=ak (qk [.list (.st 5),.list (.st 9)] [.list (.st 9)] [Ef] [TS] Tryz.func235) FM
noncomputable def FJ(n:Nat):((List dG)×(List aV))→Option ((List aV)×Int):=λ(j,k)=>aa (yZ n (j,k)) λF=>ab (!F) (some (([]:List aV),1)) (aa (FM n (j,k)) λB=>some (B,0))
noncomputable def P2:=ak (qk [.list (.st 5),.list (.st 9)] [.list (.st 9),tI] [Ee,P6] [] Tryz.func147) FJ
noncomputable def GO(n:Nat):((List aV)×(List aV))→Option Bool:=λ(k,B)=>ab (!(aj (k.length:Int) (B.length:Int))) (some false) (aT (aN n (λj:Int=>ab (ai j (k.length:Int)) (aa (aA k j) λF=>aa (aA B j) λG=>ab (!(KC F G)) (some (.inr (.inr false))) (ag (an (j+1)) <|some (.inl (j+1)))) (some (.inr (.inl ())))) 0) λ(j:Unit)=>some true)
noncomputable def Ri:=ak (qk [.list (.st 9),.list (.st 9)] [.bool] [] [] Tryz.func148) GO
noncomputable def lu(n:Nat):Score→Option Bool:=λ(j)=>aa (aa (uY n j.version) λF=>ab (!F) (some true) (aa (uT n j.bars) λB=>ab (!B) (some true) (aa (Gi n j.parts) λk=>ab (!k) (some true) (aa (yZ n (j.bars,j.notes)) λM=>ab (!M) (some true) (aa (Gt n (j.parts,j.notes)) λG=>some (!(aj G 0))))))) λ(F:Bool)=>ab F (some false) (aa (FJ n (j.bars,j.notes)) λB=>aa (ab (aj B.2 0) (aa (GO n (B.1,j.notes)) λk=>some k) (some false)) λ(k:Bool)=>some k)
noncomputable def mf:=ak (qk [.st 10] [.bool] [yF,yA,QM,Ee,QW,P2,Ri] [] Tryz.func81) lu
noncomputable def HA(n:Nat):Rat→Option Bool:=λ(j)=>aa (aa (jC n j) λk=>ab k (ab (ai 0 j.n) (ag (an (10*j.d)) <|ab (aB j.n (10*j.d)) (ag (!(aj j.d 0)) <|some (aj (Int.tmod 60 j.d) 0)) (some false)) (some false)) (some false)) λ(k:Bool)=>some k
noncomputable def R7:=ak (qk [.st 4] [.bool] [me] [] Tryz.func154) HA
noncomputable def Hz(n:Nat):((List dG)×(List lI))→Option Bool:=λ(F,k)=>aa (aa (uT n F) λG=>ab (!G) (some true) (ab (aj (k.length:Int) 0) (some true) (ab (ai 1000 (k.length:Int)) (some true) (aa (aA k 0) λj=>some (!(aj j.bG 0)))))) λ(G:Bool)=>ab G (some false) (aT (aN n (λj:Int=>ab (ai j (k.length:Int)) (aa (aA k j) λB=>aa (aa (HA n B.quarter) λM=>ab (!M) (some true) (ab (aB (F.length:Int) B.bG) (some true) (ab (ai 0 j) (ag (an (j-1)) <|aa (aA k (j-1)) λO=>some (aB B.bG O.bG)) (some false)))) λ(M:Bool)=>ab M (some (.inr (.inr false))) (ag (an (j+1)) <|some (.inl (j+1)))) (some (.inr (.inl ())))) 0) λ(j:Unit)=>some true)
noncomputable def R6:=ak (qk [.list (.st 5),.list (.st 16)] [.bool] [yA,R7] [] Tryz.func83) Hz
noncomputable def Fo(n:Nat):c8→Option Bool:=λ(j)=>aa (aa (lu n j.score) λk=>ab k (aa (pv n j.form) λB=>ab B (ab (aj j.form.bars (j.score.bars.length:Int)) (aa (Hz n (j.score.bars,j.z7)) λF=>some F) (some false)) (some false)) (some false)) λ(k:Bool)=>some k
noncomputable def PH:=ak (qk [.st 17] [.bool] [mf,ri,R6] [] Tryz.func40) Fo
noncomputable def Fc(n:Nat):(Int×fZ)→Option Bool:=λ(j,k)=>aa (aA k.fz j) λB=>aa (Fo n B) λF=>some F
noncomputable def Pw:=ak (qk [tI,.box (.st 23)] [.bool] [PH] [] Tryz.func39) Fc
noncomputable def Ff(n:Nat):(Int×fZ)→Option Bool:=λ(k,B)=>aT (aN n (λj:Int=>ab (ai j k) (aa (Fc n (j,B)) λF=>ab (!F) (some (.inr (.inr false))) (ag (an (j+1)) <|some (.inl (j+1)))) (some (.inr (.inl ())))) 0) λ(j:Unit)=>some true
noncomputable def Py:=ak (qk [tI,.ar 39 (.box (.st 23))] [.bool] [Pw] [] Tryz.func38) Ff
noncomputable def Ft(n:Nat):c8→Option Int:=λ(j)=>some j.score.version
noncomputable def PL:=ak (qk [.st 17] [tI] [] [] Tryz.func156) Ft
noncomputable def Fl(n:Nat):(c8×(Unit×Int))→Option Bool:=λ(j,F,k)=>aa (Ft n j) λB=>some (aj B k)
noncomputable def PF:=ak (qk [.st 17,.box (.fn 156),.box tI] [.bool] [PL] [] Tryz.func240) Fl
noncomputable def G9(n:Nat):((List c8)×(Unit×Int))→Option Int:=λ(k,B)=>aT (aN n (λj:Int=>ab (ai j (k.length:Int)) (aa (aA k j) λF=>aa (Fl n (F,(B.1,B.2))) λG=>ab G (some (.inr (.inr j))) (ag (an (j+1)) <|some (.inl (j+1)))) (some (.inr (.inl ())))) 0) λ(j:Unit)=>some (-1)
noncomputable def RE:=ak (qk [.list (.st 17),.ar 240 (.aw (.box (.fn 156)) (.box tI))] [tI] [PF] [] Tryz.func22) G9
noncomputable def Fm(n:Nat):((List c8)×(Int×Unit))→Option Int:=λ(j,k,B)=>aa (G9 n (j,(B,k))) λF=>some F
noncomputable def PG:=ak (qk [.list (.st 17),tI,.fn 156] [tI] [RE] [] Tryz.func155) Fm
noncomputable def yW(n:Nat):(Shelf×Int)→Option Int:=λ(j,k)=>aa (Fm n (j.ez.fz,(k,()))) λB=>some B
noncomputable def D9:=ak (qk [.st 31,tI] [tI] [PG] [] Tryz.func84) yW
noncomputable def Fp(n:Nat):ct→Option Int:=λ(j)=>some j.id
noncomputable def PI:=ak (qk [.st 20] [tI] [] [] Tryz.func158) Fp
noncomputable def Fj(n:Nat):(ct×(Unit×Int))→Option Bool:=λ(j,F,k)=>aa (Fp n j) λB=>some (aj B k)
noncomputable def PD:=ak (qk [.st 20,.box (.fn 158),.box tI] [.bool] [PI] [] Tryz.func241) Fj
noncomputable def GR(n:Nat):((List ct)×(Unit×Int))→Option Int:=λ(k,B)=>aT (aN n (λj:Int=>ab (ai j (k.length:Int)) (aa (aA k j) λF=>aa (Fj n (F,(B.1,B.2))) λG=>ab G (some (.inr (.inr j))) (ag (an (j+1)) <|some (.inl (j+1)))) (some (.inr (.inl ())))) 0) λ(j:Unit)=>some (-1)
noncomputable def Rm:=ak (qk [.list (.st 20),.ar 241 (.aw (.box (.fn 158)) (.box tI))] [tI] [PD] [] Tryz.func126) GR
noncomputable def Fk(n:Nat):((List ct)×(Int×Unit))→Option Int:=λ(j,k,B)=>aa (GR n (j,(B,k))) λF=>some F
noncomputable def PE:=ak (qk [.list (.st 20),tI,.fn 158] [tI] [Rm] [] Tryz.func157) Fk
noncomputable def yV(n:Nat):(Shelf×Int)→Option Int:=λ(j,k)=>aa (Fk n (j.ez.jY,(k,()))) λB=>some B
noncomputable def D8:=ak (qk [.st 31,tI] [tI] [PE] [] Tryz.func85) yV
noncomputable def im(n:Nat):(Int×(Int×Int))→Option Bool:=λ(j,k,B)=>aa (ab (aB k j) (some (aB j B)) (some false)) λ(F:Bool)=>some F
noncomputable def pk:=ak (qk [tI,tI,tI] [.bool] [] [] Tryz.func214) im
noncomputable def E1(n:Nat):dC→Option Bool:=λ(j)=>aa (aa (im n (j.number,(0,100000))) λk=>ab (!k) (some true) (aa (im n (j.bG,(1,1000000))) λB=>ab (!B) (some true) (aa (im n (j.pass,(0,9))) λF=>some (!F)))) λ(k:Bool)=>some k
noncomputable def Pf:=ak (qk [.st 18] [.bool] [pk] [] Tryz.func242) E1
noncomputable def G4(n:Nat):((List dC)×Unit)→Option Int:=λ(k,G)=>aT (aN n (λj:Int=>ab (ai j (k.length:Int)) (aa (aA k j) λB=>aa (E1 n B) λF=>ab F (some (.inr (.inr j))) (ag (an (j+1)) <|some (.inl (j+1)))) (some (.inr (.inl ())))) 0) λ(j:Unit)=>some (-1)
noncomputable def Ry:=ak (qk [.list (.st 18),.fn 242] [tI] [Pf] [] Tryz.func216) G4
noncomputable def GG(n:Nat):((List dC)×Unit)→Option Bool:=λ(j,k)=>aa (G4 n (j,k)) λB=>some (aB 0 B)
noncomputable def Q9:=ak (qk [.list (.st 18),.fn 242] [.bool] [Ry] [] Tryz.func245) GG
noncomputable def E0(n:Nat):((List dC)×Unit)→Option Bool:=λ(j,k)=>aa (GG n (j,k)) λB=>some B
noncomputable def Pe:=ak (qk [.list (.st 18),.fn 242] [.bool] [Q9] [] Tryz.func160) E0
noncomputable def Hx(n:Nat):(ByteArray×Unit)→Option Int:=λ(j,k)=>aa (Sl n (j,(k,true))) λB=>some B
noncomputable def R3:=ak (qk [.str,.fn 299] [tI] [R5] [] Tryz.func74) Hx
noncomputable def yR(n:Nat):ByteArray→Option Bool:=λ(j)=>aa (ab (!(j == (⟨⟨[]⟩⟩:ByteArray))) (ab (aB (j.size:Int) 12) (aa (Hx n (j,())) λk=>ab (ai k 0) (ag ((aB 0 0)&&(ai 0 (j.size:Int))) <|some (aB 65 (sA j 0))) (some false)) (some false)) (some false)) λ(k:Bool)=>some k
noncomputable def D3:=ak (qk [.str] [.bool] [R3] [] Tryz.func212) yR
noncomputable def E2(n:Nat):(iF×ct)→Option Bool:=λ(j,k)=>aa (aa (yR n j.name) λB=>ab (!B) (some true) (ag (an ((k.bars.length:Int)-1)) <|aa (im n (j.at_,(0,((k.bars.length:Int)-1)))) λF=>some (!F))) λ(B:Bool)=>some B
noncomputable def Pg:=ak (qk [.st 19,.box (.st 20)] [.bool] [D3,pk] [] Tryz.func243) E2
noncomputable def GW(n:Nat):((List iF)×ct)→Option Int:=λ(k,B)=>aT (aN n (λj:Int=>ab (ai j (k.length:Int)) (aa (aA k j) λF=>aa (E2 n (F,B)) λG=>ab G (some (.inr (.inr j))) (ag (an (j+1)) <|some (.inl (j+1)))) (some (.inr (.inl ())))) 0) λ(j:Unit)=>some (-1)
noncomputable def Rq:=ak (qk [.list (.st 19),.ar 243 (.box (.st 20))] [tI] [Pg] [] Tryz.func352) GW
noncomputable def Gz(n:Nat):((List iF)×ct)→Option Bool:=λ(j,k)=>aa (GW n (j,k)) λB=>some (aB 0 B)
noncomputable def Q3:=ak (qk [.list (.st 19),.ar 243 (.box (.st 20))] [.bool] [Rq] [] Tryz.func318) Gz
noncomputable def EX(n:Nat):((List iF)×ct)→Option Bool:=λ(j,k)=>aa (Gz n (j,k)) λB=>some B
noncomputable def Pb:=ak (qk [.list (.st 19),.ar 243 (.box (.st 20))] [.bool] [Q3] [] Tryz.func244) EX
noncomputable def yS(n:Nat):ct→Option (List (ByteArray×Int)):=λ(k)=>aa (aN n (λj:(Int×(List (ByteArray×Int)))=>ab (ai j.1 (k.nk.length:Int)) (aa (aA k.nk j.1) λB=>ag (an (j.1+1)) <|some (.inl ((j.1+1),(iV .str j.2 B.name B.at_)))) (some (.inr j.2))) (0,([]:List (ByteArray×Int)))) λ(j:(List (ByteArray×Int)))=>some j
noncomputable def D4:=ak (qk [.st 20] [.map (.str) tI] [] [] Tryz.func213) yS
noncomputable def pn(n:Nat):ct→Option Bool:=λ(j)=>aa (aa (im n (j.id,(1,1000000))) λB=>ab B (aa (im n (j.version,(1,1000000))) λk=>some k) (some false)) λ(B:Bool)=>aa (ab (!B) (some true) (aa (im n ((j.bars.length:Int),(1,4000))) λk=>ab (!k) (some true) (some (ai 1000 (j.nk.length:Int))))) λ(k:Bool)=>ab k (some false) (aa (aa (E0 n (j.bars,())) λF=>ab (!F) (aa (EX n (j.nk,j)) λM=>ab (!M) (aa (yS n j) λG=>some (aj (G.length:Int) (j.nk.length:Int))) (some false)) (some false)) λ(F:Bool)=>some F)
noncomputable def ra:=ak (qk [.st 20] [.bool] [pk,Pe,Pb,D4] [] Tryz.func159) pn
noncomputable def EV(n:Nat):(dC×(List (Int×Bool)))→Option Bool:=λ(j,k)=>some (!(aZ k j.bG false))
noncomputable def O9:=ak (qk [.st 18,.box (.map tI (.bool))] [.bool] [] [] Tryz.func161) EV
noncomputable def G3(n:Nat):((List dC)×(List (Int×Bool)))→Option Int:=λ(k,B)=>aT (aN n (λj:Int=>ab (ai j (k.length:Int)) (aa (aA k j) λF=>aa (EV n (F,B)) λG=>ab G (some (.inr (.inr j))) (ag (an (j+1)) <|some (.inl (j+1)))) (some (.inr (.inl ())))) 0) λ(j:Unit)=>some (-1)
noncomputable def Rx:=ak (qk [.list (.st 18),.ar 161 (.box (.map tI (.bool)))] [tI] [O9] [] Tryz.func216) G3
noncomputable def GF(n:Nat):((List dC)×(List (Int×Bool)))→Option Bool:=λ(j,k)=>aa (G3 n (j,k)) λB=>some (aB 0 B)
noncomputable def Q8:=ak (qk [.list (.st 18),.ar 161 (.box (.map tI (.bool)))] [.bool] [Rx] [] Tryz.func245) GF
noncomputable def EZ(n:Nat):((List dC)×(List (Int×Bool)))→Option Bool:=λ(j,k)=>aa (GF n (j,k)) λB=>some B
noncomputable def Pd:=ak (qk [.list (.st 18),.ar 161 (.box (.map tI (.bool)))] [.bool] [Q8] [] Tryz.func160) EZ
noncomputable def EU(n:Nat):(Score×ct)→Option Bool:=λ(k,B)=>aa (aa (lu n k) λF=>ab (!F) (some true) (aa (pn n B) λj=>ab (!j) (some true) (some (!(aj B.version k.version))))) λ(F:Bool)=>ab F (some false) (aa (aN n (λj:(Int×(List (Int×Bool)))=>ab (ai j.1 (k.bars.length:Int)) (aa (aA k.bars j.1) λG=>ag (an (j.1+1)) <|some (.inl ((j.1+1),(bc j.2 G.id true)))) (some (.inr j.2))) (0,([]:List (Int×Bool)))) λ(j:(List (Int×Bool)))=>aa (EZ n (B.bars,j)) λG=>some (!G))
noncomputable def O8:=ak (qk [.st 10,.st 20] [.bool] [mf,ra,Pd] [] Tryz.func86) EU
noncomputable def Fq(n:Nat):(Shelf×Int)→Option Bool:=λ(j,F)=>aa (aA j.ez.jY F) λk=>aa (yW n (j,k.version)) λG=>aa (ab (aB 0 G) (aa (yV n (j,k.id)) λB=>ab (aj B F) (aa (aA j.ez.fz G) λM=>aa (EU n (M.score,k)) λO=>some O) (some false)) (some false)) λ(B:Bool)=>some B
noncomputable def PJ:=ak (qk [.st 31,tI] [.bool] [D9,D8,O8] [] Tryz.func42) Fq
noncomputable def Fh(n:Nat):(Int×Shelf)→Option Bool:=λ(k,B)=>aT (aN n (λj:Int=>ab (ai j k) (aa (Fq n (B,j)) λF=>ab (!F) (some (.inr (.inr false))) (ag (an (j+1)) <|some (.inl (j+1)))) (some (.inr (.inl ())))) 0) λ(j:Unit)=>some true
noncomputable def PA:=ak (qk [tI,.aa 42 (.st 31)] [.bool] [PJ] [] Tryz.func38) Fh
noncomputable def Fu(n:Nat):(Int×(Int×Int))→Option Bool:=λ(j,k,B)=>aa (ab (aB k j) (some (aB j B)) (some false)) λ(F:Bool)=>some F
noncomputable def PM:=ak (qk [tI,tI,tI] [.bool] [] [] Tryz.func87) Fu
noncomputable def zk(n:Nat):(Score×Int)→Option Bool:=λ(k,B)=>aa (aa (lu n k) λj=>ab j (aa (uY n B) λF=>some F) (some false)) λ(j:Bool)=>some j
noncomputable def Ew:=ak (qk [.st 10,tI] [.bool] [mf,yF] [] Tryz.func162) zk
noncomputable def Gr(n:Nat):Part→Option Int:=λ(j)=>some j.id
noncomputable def QT:=ak (qk [.st 8] [tI] [] [] Tryz.func164) Gr
noncomputable def Gn(n:Nat):(Part×(Unit×Int))→Option Bool:=λ(j,F,k)=>aa (Gr n j) λB=>some (aj B k)
noncomputable def QR:=ak (qk [.st 8,.box (.fn 164),.box tI] [.bool] [QT] [] Tryz.func246) Gn
noncomputable def G0(n:Nat):((List Part)×(Unit×Int))→Option Int:=λ(k,B)=>aT (aN n (λj:Int=>ab (ai j (k.length:Int)) (aa (aA k j) λF=>aa (Gn n (F,(B.1,B.2))) λG=>ab G (some (.inr (.inr j))) (ag (an (j+1)) <|some (.inl (j+1)))) (some (.inr (.inl ())))) 0) λ(j:Unit)=>some (-1)
noncomputable def Ru:=ak (qk [.list (.st 8),.ar 246 (.aw (.box (.fn 164)) (.box tI))] [tI] [QR] [] Tryz.func192) G0
noncomputable def zl(n:Nat):((List Part)×(Int×Unit))→Option (Int×Bool):=λ(k,B,F)=>aa (G0 n (k,(F,B))) λj=>some ((max j 0),(aB 0 j))
noncomputable def Ez:=ak (qk [.list (.st 8),tI,.fn 164] [tI,.bool] [Ru] [] Tryz.func163) zl
noncomputable def Gg(n:Nat):(Score×Int)→Option (Int×(Bool×Int)):=λ(j,k)=>aa (zk n (j,k)) λF=>ab (!F) (some (0,(false,1))) (aa (zl n (j.parts,(k,()))) λB=>some (B.1,(B.2,0)))
noncomputable def QK:=ak (qk [.st 10,tI] [tI,.bool,tI] [Ew,Ez] [] Tryz.func88) Gg
noncomputable def Fs(n:Nat):(Shelf×Int)→Option Bool:=λ(k,B)=>aa (aA k.ez.mq B) λj=>aa (yV n (k,j.dR)) λG=>aa (ag (an (B+1)) <|ab (!(aj j.id (B+1))) (some true) (ab (ai G 0) (some true) (aa (aA k.ez.jY G) λF=>ab (!(aj j.version F.version)) (some true) (aa (Fu n (j.yq,(1,1000))) λM=>some (!M))))) λ(F:Bool)=>ab F (some false) (aa (yW n (k,j.version)) λM=>aa (aA k.ez.fz M) λU=>aa (Gg n (U.score,j.part)) λO=>aa (ab (aj O.2.2 0) (some O.2.1) (some false)) λ(Y:Bool)=>some Y)
noncomputable def PK:=ak (qk [.st 31,tI] [.bool] [D8,PM,D9,QK] [] Tryz.func44) Fs
noncomputable def Fi(n:Nat):(Int×Shelf)→Option Bool:=λ(k,B)=>aT (aN n (λj:Int=>ab (ai j k) (aa (Fs n (B,j)) λF=>ab (!F) (some (.inr (.inr false))) (ag (an (j+1)) <|some (.inl (j+1)))) (some (.inr (.inl ())))) 0) λ(j:Unit)=>some true
noncomputable def PB:=ak (qk [tI,.aa 44 (.st 31)] [.bool] [PK] [] Tryz.func38) Fi
noncomputable def Fe(n:Nat):(Int×fZ)→Option Bool:=λ(k,j)=>aa (aA j.nr k) λB=>some (aB B.ja (j.mq.length:Int))
noncomputable def Px:=ak (qk [tI,.box (.st 23)] [.bool] [] [] Tryz.func46) Fe
noncomputable def Fg(n:Nat):(Int×fZ)→Option Bool:=λ(k,B)=>aT (aN n (λj:Int=>ab (ai j k) (aa (Fe n (j,B)) λF=>ab (!F) (some (.inr (.inr false))) (ag (an (j+1)) <|some (.inl (j+1)))) (some (.inr (.inl ())))) 0) λ(j:Unit)=>some true
noncomputable def Pz:=ak (qk [tI,.ar 46 (.box (.st 23))] [.bool] [Px] [] Tryz.func38) Fg
noncomputable def uR(n:Nat):Unit→Option (List (Int×Kind)):=λ()=>some (bc (bc (bc ([]:List (Int×Kind)) 1 (⟨(1:Nat),false⟩:Kind)) 2 (⟨(2:Nat),true⟩:Kind)) 3 (⟨(3:Nat),false⟩:Kind))
noncomputable def Eb:=ak (qk [] [.map tI (.st 42)] [] [] Tryz.func165) uR
noncomputable def uS(n:Nat):(Int×(Int×Int))→Option Bool:=λ(j,k,B)=>aa (ab (aB k j) (some (aB j B)) (some false)) λ(F:Bool)=>some F
noncomputable def yz:=ak (qk [tI,tI,tI] [.bool] [] [] Tryz.func250) uS
noncomputable def Fx(n:Nat):Int→Option Bool:=λ(j)=>aa (uS n (j,(0,1000000000))) λk=>some k
noncomputable def PQ:=ak (qk [tI] [.bool] [yz] [] Tryz.func166) Fx
noncomputable def yX(n:Nat):Int→Option Bool:=λ(j)=>aa (uS n (j,(1,1000000))) λk=>some k
noncomputable def Ea:=ak (qk [tI] [.bool] [yz] [] Tryz.func167) yX
noncomputable def Fy(n:Nat):jg→Option Bool:=λ(k)=>aa (aa (yX n k.dn) λj=>ab j (some (aj k.ba 0)) (some false)) λ(j:Bool)=>some j
noncomputable def PR:=ak (qk [.st 22] [.bool] [Ea] [] Tryz.func247) Fy
noncomputable def Fz(n:Nat):jg→Option Bool:=λ(j)=>aa (ab (aj j.dn 0) (some (aj j.ba 0)) (some false)) λ(k:Bool)=>some k
noncomputable def PS:=ak (qk [.st 22] [.bool] [] [] Tryz.func248) Fz
noncomputable def FA(n:Nat):jg→Option Bool:=λ(k)=>aa (ab (aj k.dn 0) (aa (uS n (k.ba,(0,99))) λj=>some j) (some false)) λ(j:Bool)=>some j
noncomputable def PT:=ak (qk [.st 22] [.bool] [yz] [] Tryz.func249) FA
noncomputable def Fw(n:Nat):jg→Option Bool:=λ(j)=>aa (uR n ()) λB=>aa (ab (dO B j.kind) (aa (Fx n j.time) λF=>ab F (aa (yX n j.ja) λG=>ab G (aa (ab (aj (Int.ofNat (aZ B j.kind (⟨(0:Nat),false⟩:Kind)).formed) 1) (aa (Fy n j) λk=>some k) (ab (aj (Int.ofNat (aZ B j.kind (⟨(0:Nat),false⟩:Kind)).formed) 2) (aa (Fz n j) λk=>some k) (ag (aj (Int.ofNat (aZ B j.kind (⟨(0:Nat),false⟩:Kind)).formed) 3) <|aa (FA n j) λk=>some k))) λ(k:Bool)=>some k) (some false)) (some false)) (some false)) λ(F:Bool)=>some F
noncomputable def PO:=ak (qk [.st 22] [.bool] [Eb,PQ,Ea,PR,PS,PT] [] Tryz.func89) Fw
noncomputable def Fv(n:Nat):(List jg)→Option Bool:=λ(G)=>aT (aN n (λj:(Int×((List (Int×Int))×(List (Int×Int))))=>ab (ai j.1 (G.length:Int)) (aa (aA G j.1) λk=>aa (aa (Fw n k) λM=>ab (!M) (some (true,(j.2.1,j.2.2))) (ab (ai 0 j.1) (ag (an (j.1-1)) <|aa (aA G (j.1-1)) λF=>ab (ai k.time F.time) (some (true,(j.2.1,j.2.2))) (aa (aa (uR n ()) λB=>ab (!((dO j.2.1 k.ja) == (aZ B k.kind (⟨(0:Nat),false⟩:Kind)).out)) (some (false,(j.2.1,j.2.2))) (aa (ab (aj k.kind 1) (some ((bc j.2.1 k.ja k.dn),j.2.2)) (ab (aj k.kind 2) (some ((oZ j.2.1 k.ja),j.2.2)) (ab (aj k.kind 3) (some (j.2.1,(bc j.2.2 k.ja k.ba))) (some (j.2.1,j.2.2))))) λ(O:((List (Int×Int))×(List (Int×Int))))=>some (true,(O.1,O.2)))) λ(B:(Bool×((List (Int×Int))×(List (Int×Int)))))=>some ((!B.1),(B.2.1,B.2.2)))) (aa (aa (uR n ()) λF=>ab (!((dO j.2.1 k.ja) == (aZ F k.kind (⟨(0:Nat),false⟩:Kind)).out)) (some (false,(j.2.1,j.2.2))) (aa (ab (aj k.kind 1) (some ((bc j.2.1 k.ja k.dn),j.2.2)) (ab (aj k.kind 2) (some ((oZ j.2.1 k.ja),j.2.2)) (ab (aj k.kind 3) (some (j.2.1,(bc j.2.2 k.ja k.ba))) (some (j.2.1,j.2.2))))) λ(B:((List (Int×Int))×(List (Int×Int))))=>some (true,(B.1,B.2)))) λ(F:(Bool×((List (Int×Int))×(List (Int×Int)))))=>some ((!F.1),(F.2.1,F.2.2))))) λ(M:(Bool×((List (Int×Int))×(List (Int×Int)))))=>ab M.1 (some (.inr (.inr false))) (ag (an (j.1+1)) <|some (.inl ((j.1+1),(M.2.1,M.2.2))))) (some (.inr (.inl ())))) (0,(([]:List (Int×Int)),([]:List (Int×Int))))) λ(j:Unit)=>some (aB (G.length:Int) 20000)
noncomputable def PN:=ak (qk [.list (.st 22)] [.bool] [PO,Eb] [] Tryz.func48) Fv
noncomputable def yU(n:Nat):fZ→Option Bool:=λ(j)=>aa (aa (yN n (j.fz,([]:List Decision))) λk=>ab (!k) (some 0) (ag (an (0+1)) <|aa (Ff n ((j.fz.length:Int),j)) λG=>ab (!G) (some 1) (ag (an (1+1)) <|aa (ab (aB (j.jY.length:Int) 12) (aa (Fh n ((j.jY.length:Int),(⟨j⟩:Shelf))) λB=>some B) (some false)) λ(B:Bool)=>ab (!B) (some 2) (ag (an (2+1)) <|aa (ab (aB (j.mq.length:Int) 5000) (aa (Fi n ((j.mq.length:Int),(⟨j⟩:Shelf))) λF=>some F) (some false)) λ(F:Bool)=>ab (!F) (some 3) (ag (an (3+1)) <|aa (Fg n ((j.nr.length:Int),j)) λM=>ab (!M) (some 4) (ag (an (4+1)) <|aa (Fv n j.nr) λO=>ab (!O) (some 5) (ag (an (5+1)) <|some (-1)))))))) λ(k:Int)=>some (!(aB 0 k))
noncomputable def D7:=ak (qk [.st 23] [.bool] [DW,Py,PA,PB,Pz,PN] [] Tryz.func20) yU
noncomputable def Gc(n:Nat):kL→Option Bool:=λ(j)=>aa (aa (yU n j.ez) λk=>ab k (aa (yN n (j.ez.fz,j.sR)) λB=>some B) (some false)) λ(k:Bool)=>some k
noncomputable def QH:=ak (qk [.st 29] [.bool] [D7,DW] [] Tryz.func18) Gc
noncomputable def px(n:Nat):(Int×(Int×Int))→Option Bool:=λ(j,k,B)=>aa (ab (aB k j) (some (aB j B)) (some false)) λ(F:Bool)=>some F
noncomputable def EC:=ak (qk [tI,tI,tI] [.bool] [] [] Tryz.func58) px
noncomputable def Hv(n:Nat):Reader→Option Bool:=λ(j)=>aa (aa (px n (j.part,(1,1000000))) λk=>ab k (aa (px n (j.gg,(1,40))) λB=>ab B (aa (px n (j.gM,(1,4))) λF=>some F) (some false)) (some false)) λ(k:Bool)=>some k
noncomputable def RZ:=ak (qk [.st 0] [.bool] [EC] [] Tryz.func59) Hv
noncomputable def FD(n:Nat):Unit→Option (List (Int×dA)):=λ()=>some (bc (bc (bc (bc ([]:List (Int×dA)) 1 (⟨(1:Nat),(1:Nat)⟩:dA)) 2 (⟨(2:Nat),(2:Nat)⟩:dA)) 3 (⟨(3:Nat),(3:Nat)⟩:dA)) 4 (⟨(4:Nat),(4:Nat)⟩:dA))
noncomputable def PW:=ak (qk [] [.map tI (.st 44)] [] [] Tryz.func339) FD
noncomputable def nN(n:Nat):(Int×(Int×Int))→Option Bool:=λ(j,k,B)=>aa (ab (aB k j) (some (aB j B)) (some false)) λ(F:Bool)=>some F
noncomputable def uF:=ak (qk [tI,tI,tI] [.bool] [] [] Tryz.func342) nN
noncomputable def rl(n:Nat):Int→Option Bool:=λ(j)=>aa (nN n (j,(1,1000000))) λk=>some k
noncomputable def Ec:=ak (qk [tI] [.bool] [uF] [] Tryz.func341) rl
noncomputable def yY(n:Nat):Reader→Option Bool:=λ(j)=>aa (aa (rl n j.part) λk=>ab k (aa (nN n (j.gg,(1,40))) λB=>ab B (aa (nN n (j.gM,(1,4))) λF=>some F) (some false)) (some false)) λ(k:Bool)=>some k
noncomputable def Ed:=ak (qk [.st 0] [.bool] [Ec,uF] [] Tryz.func361) yY
noncomputable def FE(n:Nat):Reader→Option Bool:=λ(j)=>aa (ab (aj j.gM 0) (aa (yY n (⟨j.part,j.gg,1⟩:Reader)) λk=>some k) (some false)) λ(k:Bool)=>some k
noncomputable def PX:=ak (qk [.st 0] [.bool] [Ed] [] Tryz.func363) FE
noncomputable def FF(n:Nat):Reader→Option Bool:=λ(j)=>aa (ab (aj j.gg 0) (ab (aj j.gM 0) (aa (nN n (j.part,(0,99))) λk=>some k) (some false)) (some false)) λ(k:Bool)=>some k
noncomputable def PY:=ak (qk [.st 0] [.bool] [uF] [] Tryz.func365) FF
noncomputable def FG(n:Nat):Reader→Option Bool:=λ(j)=>some (A3 j (⟨0,0,0⟩:Reader))
noncomputable def PZ:=ak (qk [.st 0] [.bool] [] [] Tryz.func367) FG
noncomputable def FC(n:Nat):Int→Option Bool:=λ(j)=>aa (ab (ai j 32) (some true) (some (ai 126 j))) λ(k:Bool)=>some k
noncomputable def PV:=ak (qk [.int .i32] [.bool] [] [] Tryz.func340) FC
noncomputable def Hb(n:Nat):((List Int)×Unit)→Option Int:=λ(k,G)=>aT (aN n (λj:Int=>ab (ai j (k.length:Int)) (aa (aA k j) λB=>aa (FC n B) λF=>ab F (some (.inr (.inr j))) (ag (an (j+1)) <|some (.inl (j+1)))) (some (.inr (.inl ())))) 0) λ(j:Unit)=>some (-1)
noncomputable def RG:=ak (qk [.list (.int .i32),.fn 340] [tI] [PV] [] Tryz.func369) Hb
noncomputable def GM(n:Nat):((List Int)×Unit)→Option Bool:=λ(j,k)=>aa (Hb n (j,k)) λB=>some (aB 0 B)
noncomputable def Rg:=ak (qk [.list (.int .i32),.fn 340] [.bool] [RG] [] Tryz.func343) GM
noncomputable def FB(n:Nat):Mark→Option Bool:=λ(j)=>aa (FD n ()) λB=>aa (ab (!(dO B j.gD)) (some true) (aa (ab (aj (Int.ofNat (aZ B j.gD (⟨(0:Nat),(0:Nat)⟩:dA)).fK) 1) (aa (yY n j.gd) λk=>some k) (ab (aj (Int.ofNat (aZ B j.gD (⟨(0:Nat),(0:Nat)⟩:dA)).fK) 2) (aa (FE n j.gd) λk=>some k) (ab (aj (Int.ofNat (aZ B j.gD (⟨(0:Nat),(0:Nat)⟩:dA)).fK) 3) (aa (FF n j.gd) λk=>some k) (ag (aj (Int.ofNat (aZ B j.gD (⟨(0:Nat),(0:Nat)⟩:dA)).fK) 4) <|aa (FG n j.gd) λk=>some k)))) λ(k:Bool)=>ab (!k) (some true) (aa (rl n j.id) λG=>ab (!G) (some true) (aa (rl n j.version) λF=>ab (!F) (some true) (aa (rl n j.note) λM=>ab (!M) (some true) (aa (nN n (j.kind,(1,5))) λO=>some (!O))))))) λ(k:Bool)=>ab k (some false) (aa (ab (aj j.kind 1) (some 2) (some 1000)) λ(G:Int)=>aa (aa (nN n (j.value,(0,G))) λF=>ab F (ab (aB (j.text.size:Int) 200) (ag (aB (j.text.size:Int) 16777216) <|aa (GM n ((kC j.text),())) λM=>some (!M)) (some false)) (some false)) λ(F:Bool)=>some F)
noncomputable def PU:=ak (qk [.st 1] [.bool] [PW,Ed,PX,PY,PZ,Ec,uF,Rg] [] Tryz.func296) FB
noncomputable def uL(n:Nat):(Int×(Int×Int))→Option Bool:=λ(j,k,B)=>aa (ab (aB k j) (some (aB j B)) (some false)) λ(F:Bool)=>some F
noncomputable def D6:=ak (qk [tI,tI,tI] [.bool] [] [] Tryz.func207) uL
noncomputable def uK(n:Nat):Int→Option Bool:=λ(j)=>aa (uL n (j,(1,1000000))) λk=>some k
noncomputable def D5:=ak (qk [tI] [.bool] [D6] [] Tryz.func111) uK
noncomputable def E5(n:Nat):Event→Option Bool:=λ(j)=>aa (ab (aj j.kind 1) (ab (aj j.n 0) (aa (FB n j.mark) λk=>some k) (some false)) (ab (aj j.kind 2) (ab (sq j.mark (⟨0,0,0,(⟨0,0,0⟩:Reader),0,0,0,(⟨⟨[]⟩⟩:ByteArray)⟩:Mark)) (aa (uK n j.n) λk=>some k) (some false)) (ab (aj j.kind 3) (ab (sq j.mark (⟨0,0,0,(⟨0,0,0⟩:Reader),0,0,0,(⟨⟨[]⟩⟩:ByteArray)⟩:Mark)) (aa (uL n (j.n,(0,1000))) λk=>some k) (some false)) (some false)))) λ(k:Bool)=>aa (ab k (aa (uL n (j.clock,(0,1000000000))) λB=>ab B (aa (uK n j.dn) λF=>some F) (some false)) (some false)) λ(B:Bool)=>some B
noncomputable def Pk:=ak (qk [.st 2] [.bool] [PU,D5,D6] [] Tryz.func205) E5
noncomputable def yL(n:Nat):Int→Option Bool:=λ(j)=>some (!(aj j j))
noncomputable def OU:=ak (qk [tI] [.bool] [] [] Tryz.func117) yL
noncomputable def nM(n:Nat):(Int×Int)→Option Int:=λ(j,k)=>aa (yL n j) λF=>aa (yL n k) λB=>ab F (ab B (some 0) (some (-1))) (ab B (some 1) (ab (ai j k) (some (-1)) (ab (ai k j) (some 1) (some 0))))
noncomputable def DU:=ak (qk [tI,tI] [tI] [OU] [] Tryz.func297) nM
noncomputable def E6(n:Nat):(Event×Event)→Option Int:=λ(j,k)=>aa (nM n (j.clock,k.clock)) λB=>aa (nM n (j.dn,k.dn)) λF=>aa (rk n (B::(F::([]:List Int)))) λG=>some G
noncomputable def Pm:=ak (qk [.st 2,.st 2] [tI] [DU,uE] [] Tryz.func206) E6
noncomputable def E4(n:Nat):(List Event)→Option Bool:=λ(k)=>aT (aN n (λj:Int=>ab (ai j (k.length:Int)) (aa (aA k j) λB=>aa (aa (E5 n B) λF=>ab (!F) (some true) (ab (ai 0 j) (ag (an (j-1)) <|aa (aA k (j-1)) λG=>aa (E6 n (G,B)) λM=>some (aB 0 M)) (some false))) λ(F:Bool)=>ab F (some (.inr (.inr false))) (ag (an (j+1)) <|some (.inl (j+1)))) (some (.inr (.inl ())))) 0) λ(j:Unit)=>some (aB (k.length:Int) 20000)
noncomputable def Pj:=ak (qk [.list (.st 2)] [.bool] [Pk,Pm] [] Tryz.func110) E4
noncomputable def E3(n:Nat):((List Event)×Int)→Option (Int×Int):=λ(B,F)=>aa (aa (E4 n B) λG=>ab (!G) (some true) (aa (uK n F) λj=>some (!j))) λ(G:Bool)=>ab G (some (0,1)) (aa (aN n (λj:(Int×Int)=>ab (ai j.2 (B.length:Int)) (aa (aa (aA B j.2) λk=>aa (ab (aj k.kind 3) (some (aj k.dn F)) (some false)) λ(M:Bool)=>ab M (some (max j.1 k.n)) (some j.1)) λ(k:Int)=>ag (an (j.2+1)) <|some (.inl (k,(j.2+1)))) (some (.inr j.1))) (0,0)) λ(j:Int)=>some (j,0))
noncomputable def Ph:=ak (qk [.list (.st 2),tI] [tI,tI] [Pj,D5] [] Tryz.func60) E3
noncomputable def zq(n:Nat):aJ→Option Bool:=λ(j)=>aa (aa (px n (j.dR,(1,1000000))) λB=>ab (!B) (some true) (aa (Hv n j.reader) λk=>ab (!k) (some true) (aa (px n (j.known,(0,1000))) λF=>some (!F)))) λ(B:Bool)=>ab B (some false) (aa (E3 n (j.events,j.id)) λk=>aa (ab (aj k.2 0) (some (aB k.1 j.known)) (some false)) λ(F:Bool)=>some F)
noncomputable def EB:=ak (qk [.st 3] [.bool] [EC,RZ,Ph] [] Tryz.func26) zq
noncomputable def Ge(n:Nat):(aJ×Int)→Option Bool:=λ(j,B)=>aa (ab (ai B j.known) (some true) (aa (zq n j) λk=>some (!k))) λ(k:Bool)=>some k
noncomputable def QI:=ak (qk [.st 3,.box tI] [.bool] [EB] [] Tryz.func25) Ge
noncomputable def G8(n:Nat):((List aJ)×Int)→Option Int:=λ(k,B)=>aT (aN n (λj:Int=>ab (ai j (k.length:Int)) (aa (aA k j) λF=>aa (Ge n (F,B)) λG=>ab G (some (.inr (.inr j))) (ag (an (j+1)) <|some (.inl (j+1)))) (some (.inr (.inl ())))) 0) λ(j:Unit)=>some (-1)
noncomputable def RD:=ak (qk [.list (.st 3),.ar 25 (.box tI)] [tI] [QI] [] Tryz.func61) G8
noncomputable def GJ(n:Nat):((List aJ)×Int)→Option Bool:=λ(j,k)=>aa (G8 n (j,k)) λB=>some (aB 0 B)
noncomputable def Rc:=ak (qk [.list (.st 3),.ar 25 (.box tI)] [.bool] [RD] [] Tryz.func27) GJ
noncomputable def zj(n:Nat):((List aJ)×Int)→Option Bool:=λ(k,F)=>aa (aN n (λj:(Int×(List (Int×Bool)))=>ab (ai j.1 (k.length:Int)) (aa (aA k j.1) λB=>ag (an (j.1+1)) <|some (.inl ((j.1+1),(bc j.2 B.id true)))) (some (.inr j.2))) (0,([]:List (Int×Bool)))) λ(j:(List (Int×Bool)))=>aa (ab (aj (j.length:Int) (k.length:Int)) (aa (GJ n (k,F)) λB=>some (!B)) (some false)) λ(B:Bool)=>some B
noncomputable def Ev:=ak (qk [.list (.st 3),tI] [.bool] [Rc] [] Tryz.func14) zj
noncomputable def Gb(n:Nat):(kL×((List aJ)×(Int×Call)))→Option ((List aJ)×(kL×(Int×Call))):=λ(j,k,B,F)=>some (k,(j,(B,F)))
noncomputable def QG:=ak (qk [.st 29,.list (.st 3),tI,.st 25] [.ar 34 (.aw (.box (.list (.st 3))) (.aw (.box (.st 29)) (.aw (.box tI) (.box (.st 25)))))] [] [] Tryz.func19) Gb
noncomputable def yM(n:Nat):((List c8)×((List Decision)×(Int×Int)))→Option (Room×Int):=λ(ad,Y,ae,ak)=>aa (aa (aa (yO n ad) λU=>ab (!U) (some true) (some (ai 1000 (Y.length:Int)))) λ(U:Bool)=>ab U (some (false,(0,(0,(([]:List Repeat),(([]:List Ending),(0,(0,(0,(([]:List Cut),([]:List Int))))))))))) (aT (aN n (λG:(Int×(Int×(Int×(Int×((List Repeat)×((List Ending)×(Int×(Int×(Int×((List Cut)×(List Int)))))))))))=>ab (ai G.2.1 (Y.length:Int)) (aa (aA Y G.2.1) λB=>aa (ag (an (G.2.1+1)) <|ab (!(aj B.number (G.2.1+1))) (some true) (ab (ai B.time G.1) (some true) (aa (uI n B.time) λZ=>some (!Z)))) λ(Z:Bool)=>ab Z (some (.inr (.inr (false,(G.2.2.1,(G.2.2.2.1,(G.2.2.2.2.1,(G.2.2.2.2.2.1,(G.2.2.2.2.2.2.1,(G.2.2.2.2.2.2.2.1,(G.2.2.2.2.2.2.2.2.1,(G.2.2.2.2.2.2.2.2.2.1,G.2.2.2.2.2.2.2.2.2.2)))))))))))) (ag (an (G.2.1+1)) <|some (.inl (B.time,((G.2.1+1),(G.2.2.1,(G.2.2.2.1,(G.2.2.2.2.1,(G.2.2.2.2.2.1,(G.2.2.2.2.2.2.1,(G.2.2.2.2.2.2.2.1,(G.2.2.2.2.2.2.2.2.1,(G.2.2.2.2.2.2.2.2.2.1,G.2.2.2.2.2.2.2.2.2.2))))))))))))) (some (.inr (.inl (G.2.2.1,(G.2.2.2.1,(G.2.2.2.2.1,(G.2.2.2.2.2.1,(G.2.2.2.2.2.2.1,(G.2.2.2.2.2.2.2.1,(G.2.2.2.2.2.2.2.2.1,(G.2.2.2.2.2.2.2.2.2.1,G.2.2.2.2.2.2.2.2.2.2)))))))))))) (0,(0,(0,(0,(([]:List Repeat),(([]:List Ending),(0,(0,(0,(([]:List Cut),([]:List Int)))))))))))) λ(G:(Int×(Int×((List Repeat)×((List Ending)×(Int×(Int×(Int×((List Cut)×(List Int))))))))))=>aa (aa (aA ad 0) λB=>aa (ag (decide ((List.append ([]:List Repeat) B.form.cj).length*24≤140737488355328∧(List.append ([]:List Repeat) B.form.cj).length≤9223372036854775807)) <|some (List.append ([]:List Repeat) B.form.cj)) λ(Z:(List Repeat))=>aa (ag (decide ((List.append ([]:List Ending) B.form.dt).length*24≤140737488355328∧(List.append ([]:List Ending) B.form.dt).length≤9223372036854775807)) <|some (List.append ([]:List Ending) B.form.dt)) λ(af:(List Ending))=>aa (ag (decide ((List.append ([]:List Cut) B.form.cS).length*24≤140737488355328∧(List.append ([]:List Cut) B.form.cS).length≤9223372036854775807)) <|some (List.append ([]:List Cut) B.form.cS)) λ(ah:(List Cut))=>aT (aa (uJ n (Y,((Y.length:Int),1000000000))) λF=>aN n (λj:(Int×(Int×(Int×((List Repeat)×((List Ending)×(Int×(Int×(Int×((List Cut)×((List Int)×(Bool×(Int×(Int×((List Repeat)×((List Ending)×(Int×(Int×(Int×((List Cut)×((List Int)×(List c8)))))))))))))))))))))=>ab (ai j.1 (F.1.length:Int)) (aa (aA F.1 j.1) λO=>aT (ab (ai F.2.1 O.number) (some (.inl (true,(j.2.2.2.2.2.2.2.2.2.2.2.2.1,(j.2.2.2.2.2.2.2.2.2.2.2.2.2.1,(j.2.2.2.2.2.2.2.2.2.2.2.2.2.2.1,(j.2.2.2.2.2.2.2.2.2.2.2.2.2.2.2.1,(j.2.2.2.2.2.2.2.2.2.2.2.2.2.2.2.2.1,(j.2.2.2.2.2.2.2.2.2.2.2.2.2.2.2.2.2.1,j.2.2.2.2.2.2.2.2.2.2.2.2.2.2.2.2.2.2.1))))))))) (ab (ai F.2.2 O.time) (some (.inl (true,(j.2.2.2.2.2.2.2.2.2.2.2.2.1,(j.2.2.2.2.2.2.2.2.2.2.2.2.2.1,(j.2.2.2.2.2.2.2.2.2.2.2.2.2.2.1,(j.2.2.2.2.2.2.2.2.2.2.2.2.2.2.2.1,(j.2.2.2.2.2.2.2.2.2.2.2.2.2.2.2.2.1,(j.2.2.2.2.2.2.2.2.2.2.2.2.2.2.2.2.2.1,j.2.2.2.2.2.2.2.2.2.2.2.2.2.2.2.2.2.2.1))))))))) (aa (ab (aj O.kind 1) (none) (ab (aj O.kind 2) (aa (uV n ((⟨j.2.2.2.2.2.2.2.2.2.2.2.2.1,j.2.2.2.2.2.2.2.2.2.2.2.2.2.1,j.2.2.2.2.2.2.2.2.2.2.2.2.2.2.1,(⟨j.2.2.2.2.2.2.2.2.2.2.2.2.2.2.2.1,j.2.2.2.2.2.2.2.2.2.2.2.2.2.2.2.2.1,j.2.2.2.2.2.2.2.2.2.2.2.2.2.2.2.2.2.1⟩:Jump),j.2.2.2.2.2.2.2.2.2.2.2.2.2.2.2.2.2.2.1⟩:Form),(⟨O.a,O.b,O.c⟩:Cut))) λk=>aa (aa (ab (aj k.2 0) (some (k.1.bars,(k.1.cj,(k.1.dt,(k.1.jump.at_,(k.1.jump.to,(k.1.jump.eR,k.1.cS))))))) (some (j.2.2.2.2.2.2.2.2.2.2.2.2.1,(j.2.2.2.2.2.2.2.2.2.2.2.2.2.1,(j.2.2.2.2.2.2.2.2.2.2.2.2.2.2.1,(j.2.2.2.2.2.2.2.2.2.2.2.2.2.2.2.1,(j.2.2.2.2.2.2.2.2.2.2.2.2.2.2.2.2.1,(j.2.2.2.2.2.2.2.2.2.2.2.2.2.2.2.2.2.1,j.2.2.2.2.2.2.2.2.2.2.2.2.2.2.2.2.2.2.1)))))))) λ(M:(Int×((List Repeat)×((List Ending)×(Int×(Int×(Int×(List Cut))))))))=>some (M.1,(M.2.1,(M.2.2.1,(M.2.2.2.1,(M.2.2.2.2.1,(M.2.2.2.2.2.1,M.2.2.2.2.2.2))))))) λ(M:(Int×((List Repeat)×((List Ending)×(Int×(Int×(Int×(List Cut))))))))=>some (k.2,(M.1,(M.2.1,(M.2.2.1,(M.2.2.2.1,(M.2.2.2.2.1,(M.2.2.2.2.2.1,M.2.2.2.2.2.2)))))))) (ab (aj O.kind 3) (none) (ab (aj O.kind 4) (none) (ab (aj O.kind 5) (none) (some (1,(j.2.2.2.2.2.2.2.2.2.2.2.2.1,(j.2.2.2.2.2.2.2.2.2.2.2.2.2.1,(j.2.2.2.2.2.2.2.2.2.2.2.2.2.2.1,(j.2.2.2.2.2.2.2.2.2.2.2.2.2.2.2.1,(j.2.2.2.2.2.2.2.2.2.2.2.2.2.2.2.2.1,(j.2.2.2.2.2.2.2.2.2.2.2.2.2.2.2.2.2.1,j.2.2.2.2.2.2.2.2.2.2.2.2.2.2.2.2.2.2.1))))))))))))) λ(k:(Int×(Int×((List Repeat)×((List Ending)×(Int×(Int×(Int×(List Cut)))))))))=>ab (!(aj k.1 0)) (some (.inr (.inr (.inr (j.2.1,(j.2.2.1,(j.2.2.2.1,(j.2.2.2.2.1,(j.2.2.2.2.2.1,(j.2.2.2.2.2.2.1,(j.2.2.2.2.2.2.2.1,(j.2.2.2.2.2.2.2.2.1,(j.2.2.2.2.2.2.2.2.2.1,(false,(j.2.2.2.2.2.2.2.2.2.2.2.1,(k.2.1,(k.2.2.1,(k.2.2.2.1,(k.2.2.2.2.1,(k.2.2.2.2.2.1,(k.2.2.2.2.2.2.1,(k.2.2.2.2.2.2.2,(j.2.2.2.2.2.2.2.2.2.2.2.2.2.2.2.2.2.2.2.1,j.2.2.2.2.2.2.2.2.2.2.2.2.2.2.2.2.2.2.2.2))))))))))))))))))))))) (some (.inl (false,(k.2.1,(k.2.2.1,(k.2.2.2.1,(k.2.2.2.2.1,(k.2.2.2.2.2.1,(k.2.2.2.2.2.2.1,k.2.2.2.2.2.2.2)))))))))))) λ(k:(Bool×(Int×((List Repeat)×((List Ending)×(Int×(Int×(Int×(List Cut)))))))))=>ab k.1 (some (.inr (.inl (j.2.1,(j.2.2.1,(j.2.2.2.1,(j.2.2.2.2.1,(j.2.2.2.2.2.1,(j.2.2.2.2.2.2.1,(j.2.2.2.2.2.2.2.1,(j.2.2.2.2.2.2.2.2.1,(j.2.2.2.2.2.2.2.2.2.1,(j.2.2.2.2.2.2.2.2.2.2.1,(j.2.2.2.2.2.2.2.2.2.2.2.1,(k.2.1,(k.2.2.1,(k.2.2.2.1,(k.2.2.2.2.1,(k.2.2.2.2.2.1,(k.2.2.2.2.2.2.1,(k.2.2.2.2.2.2.2,(j.2.2.2.2.2.2.2.2.2.2.2.2.2.2.2.2.2.2.2.1,j.2.2.2.2.2.2.2.2.2.2.2.2.2.2.2.2.2.2.2.2)))))))))))))))))))))) (ag (an (j.1+1)) <|some (.inl ((j.1+1),(j.2.1,(j.2.2.1,(j.2.2.2.1,(j.2.2.2.2.1,(j.2.2.2.2.2.1,(j.2.2.2.2.2.2.1,(j.2.2.2.2.2.2.2.1,(j.2.2.2.2.2.2.2.2.1,(j.2.2.2.2.2.2.2.2.2.1,(j.2.2.2.2.2.2.2.2.2.2.1,(j.2.2.2.2.2.2.2.2.2.2.2.1,(k.2.1,(k.2.2.1,(k.2.2.2.1,(k.2.2.2.2.1,(k.2.2.2.2.2.1,(k.2.2.2.2.2.2.1,(k.2.2.2.2.2.2.2,(j.2.2.2.2.2.2.2.2.2.2.2.2.2.2.2.2.2.2.2.1,j.2.2.2.2.2.2.2.2.2.2.2.2.2.2.2.2.2.2.2.2))))))))))))))))))))))) (some (.inr (.inl (j.2.1,(j.2.2.1,(j.2.2.2.1,(j.2.2.2.2.1,(j.2.2.2.2.2.1,(j.2.2.2.2.2.2.1,(j.2.2.2.2.2.2.2.1,(j.2.2.2.2.2.2.2.2.1,(j.2.2.2.2.2.2.2.2.2.1,(j.2.2.2.2.2.2.2.2.2.2.1,(j.2.2.2.2.2.2.2.2.2.2.2.1,(j.2.2.2.2.2.2.2.2.2.2.2.2.1,(j.2.2.2.2.2.2.2.2.2.2.2.2.2.1,(j.2.2.2.2.2.2.2.2.2.2.2.2.2.2.1,(j.2.2.2.2.2.2.2.2.2.2.2.2.2.2.2.1,(j.2.2.2.2.2.2.2.2.2.2.2.2.2.2.2.2.1,(j.2.2.2.2.2.2.2.2.2.2.2.2.2.2.2.2.2.1,(j.2.2.2.2.2.2.2.2.2.2.2.2.2.2.2.2.2.2.1,(j.2.2.2.2.2.2.2.2.2.2.2.2.2.2.2.2.2.2.2.1,j.2.2.2.2.2.2.2.2.2.2.2.2.2.2.2.2.2.2.2.2))))))))))))))))))))))) (0,(G.1,(G.2.1,(G.2.2.1,(G.2.2.2.1,(G.2.2.2.2.1,(G.2.2.2.2.2.1,(G.2.2.2.2.2.2.1,(G.2.2.2.2.2.2.2.1,(G.2.2.2.2.2.2.2.2,(false,(B.score.version,(B.form.bars,(Z,(af,(B.form.jump.at_,(B.form.jump.to,(B.form.jump.eR,(ah,(([]:List Int),ad))))))))))))))))))))) λ(F:(Int×(Int×((List Repeat)×((List Ending)×(Int×(Int×(Int×((List Cut)×((List Int)×(Bool×(Int×(Int×((List Repeat)×((List Ending)×(Int×(Int×(Int×((List Cut)×((List Int)×(List c8)))))))))))))))))))))=>some (F.1,(F.2.1,(F.2.2.1,(F.2.2.2.1,(F.2.2.2.2.1,(F.2.2.2.2.2.1,(F.2.2.2.2.2.2.1,(F.2.2.2.2.2.2.2.1,(F.2.2.2.2.2.2.2.2.1,(true,(F.2.2.2.2.2.2.2.2.2.2.1,(F.2.2.2.2.2.2.2.2.2.2.2.1,(F.2.2.2.2.2.2.2.2.2.2.2.2.1,(F.2.2.2.2.2.2.2.2.2.2.2.2.2.1,(F.2.2.2.2.2.2.2.2.2.2.2.2.2.2.1,(F.2.2.2.2.2.2.2.2.2.2.2.2.2.2.2.1,(F.2.2.2.2.2.2.2.2.2.2.2.2.2.2.2.2.1,(F.2.2.2.2.2.2.2.2.2.2.2.2.2.2.2.2.2.1,(F.2.2.2.2.2.2.2.2.2.2.2.2.2.2.2.2.2.2.1,F.2.2.2.2.2.2.2.2.2.2.2.2.2.2.2.2.2.2.2)))))))))))))))))))) λ(B:(Int×(Int×((List Repeat)×((List Ending)×(Int×(Int×(Int×((List Cut)×((List Int)×(Bool×(Int×(Int×((List Repeat)×((List Ending)×(Int×(Int×(Int×((List Cut)×((List Int)×(List c8)))))))))))))))))))))=>some (B.2.2.2.2.2.2.2.2.2.1,(B.1,(B.2.1,(B.2.2.1,(B.2.2.2.1,(B.2.2.2.2.1,(B.2.2.2.2.2.1,(B.2.2.2.2.2.2.1,(B.2.2.2.2.2.2.2.1,B.2.2.2.2.2.2.2.2.1))))))))))) λ(U:(Bool×(Int×(Int×((List Repeat)×((List Ending)×(Int×(Int×(Int×((List Cut)×(List Int)))))))))))=>aa (ab (!U.1) (some true) (ab (ai ae 0) (some true) (ab (ai (Y.length:Int) ae) (some true) (aa (uI n ak) λG=>some (!G))))) λ(G:Bool)=>ab G (some ((⟨0,(⟨0,([]:List Repeat),([]:List Ending),(⟨0,0,0⟩:Jump),([]:List Cut)⟩:Form),([]:List Int)⟩:Room),1)) (aa (aa (aA ad 0) λB=>aa (ag (decide ((List.append ([]:List Repeat) B.form.cj).length*24≤140737488355328∧(List.append ([]:List Repeat) B.form.cj).length≤9223372036854775807)) <|some (List.append ([]:List Repeat) B.form.cj)) λ(Z:(List Repeat))=>aa (ag (decide ((List.append ([]:List Ending) B.form.dt).length*24≤140737488355328∧(List.append ([]:List Ending) B.form.dt).length≤9223372036854775807)) <|some (List.append ([]:List Ending) B.form.dt)) λ(af:(List Ending))=>aa (ag (decide ((List.append ([]:List Cut) B.form.cS).length*24≤140737488355328∧(List.append ([]:List Cut) B.form.cS).length≤9223372036854775807)) <|some (List.append ([]:List Cut) B.form.cS)) λ(ah:(List Cut))=>aT (aa (uJ n (Y,(ae,ak))) λF=>aN n (λj:(Int×(Int×(Int×((List Repeat)×((List Ending)×(Int×(Int×(Int×((List Cut)×((List Int)×(Bool×(Int×(Int×((List Repeat)×((List Ending)×(Int×(Int×(Int×((List Cut)×((List Int)×(List c8)))))))))))))))))))))=>ab (ai j.1 (F.1.length:Int)) (aa (aA F.1 j.1) λO=>aT (ab (ai F.2.1 O.number) (some (.inl (true,(j.2.2.2.2.2.2.2.2.2.2.2.2.1,(j.2.2.2.2.2.2.2.2.2.2.2.2.2.1,(j.2.2.2.2.2.2.2.2.2.2.2.2.2.2.1,(j.2.2.2.2.2.2.2.2.2.2.2.2.2.2.2.1,(j.2.2.2.2.2.2.2.2.2.2.2.2.2.2.2.2.1,(j.2.2.2.2.2.2.2.2.2.2.2.2.2.2.2.2.2.1,j.2.2.2.2.2.2.2.2.2.2.2.2.2.2.2.2.2.2.1))))))))) (ab (ai F.2.2 O.time) (some (.inl (true,(j.2.2.2.2.2.2.2.2.2.2.2.2.1,(j.2.2.2.2.2.2.2.2.2.2.2.2.2.1,(j.2.2.2.2.2.2.2.2.2.2.2.2.2.2.1,(j.2.2.2.2.2.2.2.2.2.2.2.2.2.2.2.1,(j.2.2.2.2.2.2.2.2.2.2.2.2.2.2.2.2.1,(j.2.2.2.2.2.2.2.2.2.2.2.2.2.2.2.2.2.1,j.2.2.2.2.2.2.2.2.2.2.2.2.2.2.2.2.2.2.1))))))))) (aa (ab (aj O.kind 1) (none) (ab (aj O.kind 2) (aa (uV n ((⟨j.2.2.2.2.2.2.2.2.2.2.2.2.1,j.2.2.2.2.2.2.2.2.2.2.2.2.2.1,j.2.2.2.2.2.2.2.2.2.2.2.2.2.2.1,(⟨j.2.2.2.2.2.2.2.2.2.2.2.2.2.2.2.1,j.2.2.2.2.2.2.2.2.2.2.2.2.2.2.2.2.1,j.2.2.2.2.2.2.2.2.2.2.2.2.2.2.2.2.2.1⟩:Jump),j.2.2.2.2.2.2.2.2.2.2.2.2.2.2.2.2.2.2.1⟩:Form),(⟨O.a,O.b,O.c⟩:Cut))) λk=>aa (aa (ab (aj k.2 0) (some (k.1.bars,(k.1.cj,(k.1.dt,(k.1.jump.at_,(k.1.jump.to,(k.1.jump.eR,k.1.cS))))))) (some (j.2.2.2.2.2.2.2.2.2.2.2.2.1,(j.2.2.2.2.2.2.2.2.2.2.2.2.2.1,(j.2.2.2.2.2.2.2.2.2.2.2.2.2.2.1,(j.2.2.2.2.2.2.2.2.2.2.2.2.2.2.2.1,(j.2.2.2.2.2.2.2.2.2.2.2.2.2.2.2.2.1,(j.2.2.2.2.2.2.2.2.2.2.2.2.2.2.2.2.2.1,j.2.2.2.2.2.2.2.2.2.2.2.2.2.2.2.2.2.2.1)))))))) λ(M:(Int×((List Repeat)×((List Ending)×(Int×(Int×(Int×(List Cut))))))))=>some (M.1,(M.2.1,(M.2.2.1,(M.2.2.2.1,(M.2.2.2.2.1,(M.2.2.2.2.2.1,M.2.2.2.2.2.2))))))) λ(M:(Int×((List Repeat)×((List Ending)×(Int×(Int×(Int×(List Cut))))))))=>some (k.2,(M.1,(M.2.1,(M.2.2.1,(M.2.2.2.1,(M.2.2.2.2.1,(M.2.2.2.2.2.1,M.2.2.2.2.2.2)))))))) (ab (aj O.kind 3) (none) (ab (aj O.kind 4) (none) (ab (aj O.kind 5) (none) (some (1,(j.2.2.2.2.2.2.2.2.2.2.2.2.1,(j.2.2.2.2.2.2.2.2.2.2.2.2.2.1,(j.2.2.2.2.2.2.2.2.2.2.2.2.2.2.1,(j.2.2.2.2.2.2.2.2.2.2.2.2.2.2.2.1,(j.2.2.2.2.2.2.2.2.2.2.2.2.2.2.2.2.1,(j.2.2.2.2.2.2.2.2.2.2.2.2.2.2.2.2.2.1,j.2.2.2.2.2.2.2.2.2.2.2.2.2.2.2.2.2.2.1))))))))))))) λ(k:(Int×(Int×((List Repeat)×((List Ending)×(Int×(Int×(Int×(List Cut)))))))))=>ab (!(aj k.1 0)) (some (.inr (.inr (.inr (j.2.1,(j.2.2.1,(j.2.2.2.1,(j.2.2.2.2.1,(j.2.2.2.2.2.1,(j.2.2.2.2.2.2.1,(j.2.2.2.2.2.2.2.1,(j.2.2.2.2.2.2.2.2.1,(j.2.2.2.2.2.2.2.2.2.1,(false,(j.2.2.2.2.2.2.2.2.2.2.2.1,(k.2.1,(k.2.2.1,(k.2.2.2.1,(k.2.2.2.2.1,(k.2.2.2.2.2.1,(k.2.2.2.2.2.2.1,(k.2.2.2.2.2.2.2,(j.2.2.2.2.2.2.2.2.2.2.2.2.2.2.2.2.2.2.2.1,j.2.2.2.2.2.2.2.2.2.2.2.2.2.2.2.2.2.2.2.2))))))))))))))))))))))) (some (.inl (false,(k.2.1,(k.2.2.1,(k.2.2.2.1,(k.2.2.2.2.1,(k.2.2.2.2.2.1,(k.2.2.2.2.2.2.1,k.2.2.2.2.2.2.2)))))))))))) λ(k:(Bool×(Int×((List Repeat)×((List Ending)×(Int×(Int×(Int×(List Cut)))))))))=>ab k.1 (some (.inr (.inl (j.2.1,(j.2.2.1,(j.2.2.2.1,(j.2.2.2.2.1,(j.2.2.2.2.2.1,(j.2.2.2.2.2.2.1,(j.2.2.2.2.2.2.2.1,(j.2.2.2.2.2.2.2.2.1,(j.2.2.2.2.2.2.2.2.2.1,(j.2.2.2.2.2.2.2.2.2.2.1,(j.2.2.2.2.2.2.2.2.2.2.2.1,(k.2.1,(k.2.2.1,(k.2.2.2.1,(k.2.2.2.2.1,(k.2.2.2.2.2.1,(k.2.2.2.2.2.2.1,(k.2.2.2.2.2.2.2,(j.2.2.2.2.2.2.2.2.2.2.2.2.2.2.2.2.2.2.2.1,j.2.2.2.2.2.2.2.2.2.2.2.2.2.2.2.2.2.2.2.2)))))))))))))))))))))) (ag (an (j.1+1)) <|some (.inl ((j.1+1),(j.2.1,(j.2.2.1,(j.2.2.2.1,(j.2.2.2.2.1,(j.2.2.2.2.2.1,(j.2.2.2.2.2.2.1,(j.2.2.2.2.2.2.2.1,(j.2.2.2.2.2.2.2.2.1,(j.2.2.2.2.2.2.2.2.2.1,(j.2.2.2.2.2.2.2.2.2.2.1,(j.2.2.2.2.2.2.2.2.2.2.2.1,(k.2.1,(k.2.2.1,(k.2.2.2.1,(k.2.2.2.2.1,(k.2.2.2.2.2.1,(k.2.2.2.2.2.2.1,(k.2.2.2.2.2.2.2,(j.2.2.2.2.2.2.2.2.2.2.2.2.2.2.2.2.2.2.2.1,j.2.2.2.2.2.2.2.2.2.2.2.2.2.2.2.2.2.2.2.2))))))))))))))))))))))) (some (.inr (.inl (j.2.1,(j.2.2.1,(j.2.2.2.1,(j.2.2.2.2.1,(j.2.2.2.2.2.1,(j.2.2.2.2.2.2.1,(j.2.2.2.2.2.2.2.1,(j.2.2.2.2.2.2.2.2.1,(j.2.2.2.2.2.2.2.2.2.1,(j.2.2.2.2.2.2.2.2.2.2.1,(j.2.2.2.2.2.2.2.2.2.2.2.1,(j.2.2.2.2.2.2.2.2.2.2.2.2.1,(j.2.2.2.2.2.2.2.2.2.2.2.2.2.1,(j.2.2.2.2.2.2.2.2.2.2.2.2.2.2.1,(j.2.2.2.2.2.2.2.2.2.2.2.2.2.2.2.1,(j.2.2.2.2.2.2.2.2.2.2.2.2.2.2.2.2.1,(j.2.2.2.2.2.2.2.2.2.2.2.2.2.2.2.2.2.1,(j.2.2.2.2.2.2.2.2.2.2.2.2.2.2.2.2.2.2.1,(j.2.2.2.2.2.2.2.2.2.2.2.2.2.2.2.2.2.2.2.1,j.2.2.2.2.2.2.2.2.2.2.2.2.2.2.2.2.2.2.2.2))))))))))))))))))))))) (0,(U.2.1,(U.2.2.1,(U.2.2.2.1,(U.2.2.2.2.1,(U.2.2.2.2.2.1,(U.2.2.2.2.2.2.1,(U.2.2.2.2.2.2.2.1,(U.2.2.2.2.2.2.2.2.1,(U.2.2.2.2.2.2.2.2.2,(false,(B.score.version,(B.form.bars,(Z,(af,(B.form.jump.at_,(B.form.jump.to,(B.form.jump.eR,(ah,(([]:List Int),ad))))))))))))))))))))) λ(F:(Int×(Int×((List Repeat)×((List Ending)×(Int×(Int×(Int×((List Cut)×((List Int)×(Bool×(Int×(Int×((List Repeat)×((List Ending)×(Int×(Int×(Int×((List Cut)×((List Int)×(List c8)))))))))))))))))))))=>some (F.1,(F.2.1,(F.2.2.1,(F.2.2.2.1,(F.2.2.2.2.1,(F.2.2.2.2.2.1,(F.2.2.2.2.2.2.1,(F.2.2.2.2.2.2.2.1,(F.2.2.2.2.2.2.2.2.1,(true,(F.2.2.2.2.2.2.2.2.2.2.1,(F.2.2.2.2.2.2.2.2.2.2.2.1,(F.2.2.2.2.2.2.2.2.2.2.2.2.1,(F.2.2.2.2.2.2.2.2.2.2.2.2.2.1,(F.2.2.2.2.2.2.2.2.2.2.2.2.2.2.1,(F.2.2.2.2.2.2.2.2.2.2.2.2.2.2.2.1,(F.2.2.2.2.2.2.2.2.2.2.2.2.2.2.2.2.1,(F.2.2.2.2.2.2.2.2.2.2.2.2.2.2.2.2.2.1,(F.2.2.2.2.2.2.2.2.2.2.2.2.2.2.2.2.2.2.1,F.2.2.2.2.2.2.2.2.2.2.2.2.2.2.2.2.2.2.2)))))))))))))))))))) λ(B:(Int×(Int×((List Repeat)×((List Ending)×(Int×(Int×(Int×((List Cut)×((List Int)×(Bool×(Int×(Int×((List Repeat)×((List Ending)×(Int×(Int×(Int×((List Cut)×((List Int)×(List c8)))))))))))))))))))))=>some ((⟨B.2.2.2.2.2.2.2.2.2.2.1,(⟨B.2.2.2.2.2.2.2.2.2.2.2.1,B.2.2.2.2.2.2.2.2.2.2.2.2.1,B.2.2.2.2.2.2.2.2.2.2.2.2.2.1,(⟨B.2.2.2.2.2.2.2.2.2.2.2.2.2.2.1,B.2.2.2.2.2.2.2.2.2.2.2.2.2.2.2.1,B.2.2.2.2.2.2.2.2.2.2.2.2.2.2.2.2.1⟩:Jump),B.2.2.2.2.2.2.2.2.2.2.2.2.2.2.2.2.2.1⟩:Form),B.2.2.2.2.2.2.2.2.2.2.2.2.2.2.2.2.2.2.1⟩:Room),0))
noncomputable def DV:=ak (yI [.list (.st 17),.list (.st 24),tI,tI] [.st 30,tI] [DX,DY,DZ,Eo] [] Tryz.func21) yM
noncomputable def Hu(n:Nat):Score→Option Int:=λ(j)=>some j.version
noncomputable def RY:=ak (qk [.st 10] [tI] [] [] Tryz.func122) Hu
noncomputable def Hq(n:Nat):(Score×(Unit×Int))→Option Bool:=λ(j,F,k)=>aa (Hu n j) λB=>some (aj B k)
noncomputable def RT:=ak (qk [.st 10,.box (.fn 122),.box tI] [.bool] [RY] [] Tryz.func210) Hq
noncomputable def G7(n:Nat):((List Score)×(Unit×Int))→Option Int:=λ(k,B)=>aT (aN n (λj:Int=>ab (ai j (k.length:Int)) (aa (aA k j) λF=>aa (Hq n (F,(B.1,B.2))) λG=>ab G (some (.inr (.inr j))) (ag (an (j+1)) <|some (.inl (j+1)))) (some (.inr (.inl ())))) 0) λ(j:Unit)=>some (-1)
noncomputable def RB:=ak (qk [.list (.st 10),.ar 210 (.aw (.box (.fn 122)) (.box tI))] [tI] [RT] [] Tryz.func209) G7
noncomputable def Hr(n:Nat):((List Score)×(Int×Unit))→Option (Score×Bool):=λ(j,B,F)=>aa (G7 n (j,(F,B))) λk=>ab (ai k 0) (some ((⟨0,([]:List dG),([]:List Part),([]:List aV)⟩:Score),false)) (aa (aA j k) λG=>some (G,true))
noncomputable def RU:=ak (qk [.list (.st 10),tI,.fn 122] [.st 10,.bool] [RB] [] Tryz.func121) Hr
noncomputable def Ht(n:Nat):((List c8)×((List Decision)×(aJ×Int)))→Option (kK×Int):=λ(F,M,G,O)=>aa (zq n G) λU=>ab (!U) (some ((⟨(⟨0,(⟨0,([]:List Repeat),([]:List Ending),(⟨0,0,0⟩:Jump),([]:List Cut)⟩:Form),([]:List Int)⟩:Room),(⟨0,(⟨0,0,0⟩:Reader),0,0,([]:List Event)⟩:aJ),([]:List Score),(⟨0,([]:List dG),([]:List Part),([]:List aV)⟩:Score)⟩:kK),1)) (aa (yM n (F,(M,(G.known,O)))) λB=>ab (!(aj B.2 0)) (some ((⟨(⟨0,(⟨0,([]:List Repeat),([]:List Ending),(⟨0,0,0⟩:Jump),([]:List Cut)⟩:Form),([]:List Int)⟩:Room),(⟨0,(⟨0,0,0⟩:Reader),0,0,([]:List Event)⟩:aJ),([]:List Score),(⟨0,([]:List dG),([]:List Part),([]:List aV)⟩:Score)⟩:kK),B.2)) (aT (aN n (λj:(Int×(List Score))=>ab (ai j.1 (F.length:Int)) (aa (aA F j.1) λk=>aa (lu n k.score) λY=>ab (!Y) (some (.inr (.inr ((⟨(⟨0,(⟨0,([]:List Repeat),([]:List Ending),(⟨0,0,0⟩:Jump),([]:List Cut)⟩:Form),([]:List Int)⟩:Room),(⟨0,(⟨0,0,0⟩:Reader),0,0,([]:List Event)⟩:aJ),([]:List Score),(⟨0,([]:List dG),([]:List Part),([]:List aV)⟩:Score)⟩:kK),1)))) (ag (decide ((List.append j.2 (k.score::([]:List Score))).length*80≤140737488355328∧(List.append j.2 (k.score::([]:List Score))).length≤9223372036854775807)) <|ag (an (j.1+1)) <|some (.inl ((j.1+1),(List.append j.2 (k.score::([]:List Score))))))) (some (.inr (.inl j.2)))) (0,([]:List Score))) λ(j:(List Score))=>aa (Hr n (j,(B.1.version,()))) λk=>some ((⟨B.1,G,j,k.1⟩:kK),0)))
noncomputable def RW:=ak (qk [.list (.st 17),.list (.st 24),.st 3,tI] [.st 37,tI] [EB,DV,mf,RU] [] Tryz.func76) Ht
noncomputable def yQ(n:Nat):(ct×ByteArray)→Option (Int×Int):=λ(B,j)=>aa (aa (pn n B) λF=>ab (!F) (some true) (aa (yR n j) λk=>some (!k))) λ(F:Bool)=>ab F (some (0,1)) (aa (yS n B) λk=>ab (!(ku .str k j)) (some (0,4)) (some ((jy .str k j 0),0)))
noncomputable def D2:=ak (qk [.st 20,.str] [tI,tI] [ra,D3,D4] [] Tryz.func134) yQ
noncomputable def Hs(n:Nat):ct→Option Bool:=λ(j)=>aa (yQ n (j,(⟨⟨[65]⟩⟩:ByteArray))) λk=>some (!(aj k.2 1))
noncomputable def RV:=ak (qk [.st 20] [.bool] [D2] [] Tryz.func124) Hs
noncomputable def Hn(n:Nat):ct→Option Bool:=λ(j)=>aa (Hs n j) λk=>some (!k)
noncomputable def RQ:=ak (qk [.st 20] [.bool] [RV] [] Tryz.func123) Hn
noncomputable def GS(n:Nat):((List ct)×Unit)→Option Int:=λ(k,G)=>aT (aN n (λj:Int=>ab (ai j (k.length:Int)) (aa (aA k j) λB=>aa (Hn n B) λF=>ab F (some (.inr (.inr j))) (ag (an (j+1)) <|some (.inl (j+1)))) (some (.inr (.inl ())))) 0) λ(j:Unit)=>some (-1)
noncomputable def Rn:=ak (qk [.list (.st 20),.fn 123] [tI] [RQ] [] Tryz.func126) GS
noncomputable def Gx(n:Nat):((List ct)×Unit)→Option Bool:=λ(j,k)=>aa (GS n (j,k)) λB=>some (aB 0 B)
noncomputable def Q1:=ak (qk [.list (.st 20),.fn 123] [.bool] [Rn] [] Tryz.func125) Gx
noncomputable def Hm(n:Nat):(List ct)→Option Bool:=λ(k)=>aa (aN n (λj:(Int×(List (Int×Bool)))=>ab (ai j.1 (k.length:Int)) (aa (aA k j.1) λB=>ag (an (j.1+1)) <|some (.inl ((j.1+1),(bc j.2 B.id true)))) (some (.inr j.2))) (0,([]:List (Int×Bool)))) λ(j:(List (Int×Bool)))=>aa (ab (aB (k.length:Int) 12) (ab (aj (j.length:Int) (k.length:Int)) (aa (Gx n (k,())) λB=>some (!B)) (some false)) (some false)) λ(B:Bool)=>some B
noncomputable def RP:=ak (qk [.list (.st 20)] [.bool] [Q1] [] Tryz.func77) Hm
noncomputable def Hl(n:Nat):ct→Option Int:=λ(j)=>some j.id
noncomputable def RO:=ak (qk [.st 20] [tI] [] [] Tryz.func79) Hl
noncomputable def Ho(n:Nat):(ct×(Unit×Int))→Option Bool:=λ(j,F,k)=>aa (Hl n j) λB=>some (aj B k)
noncomputable def RR:=ak (qk [.st 20,.box (.fn 79),.box tI] [.bool] [RO] [] Tryz.func127) Ho
noncomputable def GU(n:Nat):((List ct)×(Unit×Int))→Option Int:=λ(k,B)=>aT (aN n (λj:Int=>ab (ai j (k.length:Int)) (aa (aA k j) λF=>aa (Ho n (F,(B.1,B.2))) λG=>ab G (some (.inr (.inr j))) (ag (an (j+1)) <|some (.inl (j+1)))) (some (.inr (.inl ())))) 0) λ(j:Unit)=>some (-1)
noncomputable def Ro:=ak (qk [.list (.st 20),.ar 127 (.aw (.box (.fn 79)) (.box tI))] [tI] [RR] [] Tryz.func126) GU
noncomputable def Hp(n:Nat):((List ct)×(Int×Unit))→Option (ct×Bool):=λ(j,B,F)=>aa (GU n (j,(F,B))) λk=>ab (ai k 0) (some ((⟨0,0,([]:List dC),([]:List iF)⟩:ct),false)) (aa (aA j k) λG=>some (G,true))
noncomputable def RS:=ak (qk [.list (.st 20),tI,.fn 79] [.st 20,.bool] [Ro] [] Tryz.func78) Hp
noncomputable def ET(n:Nat):(dC×aY)→Option Bool:=λ(j,k)=>aa (ab (aj j.bG k.bG) (ab (aj j.pass 0) (some true) (some (aj j.pass k.pass))) (some false)) λ(B:Bool)=>some B
noncomputable def O7:=ak (qk [.st 18,.box (.st 26)] [.bool] [] [] Tryz.func344) ET
noncomputable def G2(n:Nat):((List dC)×aY)→Option Int:=λ(k,B)=>aT (aN n (λj:Int=>ab (ai j (k.length:Int)) (aa (aA k j) λF=>aa (ET n (F,B)) λG=>ab G (some (.inr (.inr j))) (ag (an (j+1)) <|some (.inl (j+1)))) (some (.inr (.inl ())))) 0) λ(j:Unit)=>some (-1)
noncomputable def Rw:=ak (qk [.list (.st 18),.ar 344 (.box (.st 26))] [tI] [O7] [] Tryz.func216) G2
noncomputable def ES(n:Nat):(ct×aY)→Option (Int×(Int×(Bool×Int))):=λ(F,k)=>aa (aa (pn n F) λG=>ab (!G) (some true) (aa (im n (k.bG,(1,1000000))) λB=>ab (!B) (some true) (aa (im n (k.pass,(1,20000))) λj=>some (!j)))) λ(G:Bool)=>ab G (some (0,(0,(false,1)))) (aa (G2 n (F.bars,k)) λB=>ab (ai B 0) (some (0,(0,(false,0)))) (aa (aa (aa (aA F.bars B) λj=>ab (aj j.pass 0) (some (ai 1 k.pass)) (some false)) λ(j:Bool)=>ab j (some k.pass) (some 0)) λ(j:Int)=>some (B,(j,(true,0)))))
noncomputable def O6:=ak (qk [.st 20,.st 26] [tI,tI,.bool,tI] [ra,pk,Rw] [] Tryz.func298) ES
noncomputable def FQ(n:Nat):ct→Option Bool:=λ(j)=>aa (ES n (j,(⟨1,1⟩:aY))) λk=>some (aj k.2.2.2 0)
noncomputable def Qb:=ak (qk [.st 20] [.bool] [O6] [] Tryz.func211) FQ
noncomputable def ir(n:Nat):(Bool×Int)→Option (Option eO):=λ(j,k)=>ab j (some (none:Option eO)) (some (some (⟨k⟩:eO)))
noncomputable def yD:=ak (qk [.bool,tI] [.cI 339 (.st 43)] [] [] Tryz.func132) ir
noncomputable def FU(n:Nat):(Score×(ct×Room))→Option (Option eO):=λ(j,O,k)=>aa (ab (aj k.version j.version) (ab (aj k.form.bars (j.bars.length:Int)) (aa (pv n k.form) λB=>some B) (some false)) (some false)) λ(B:Bool)=>aa (aa (lu n j) λF=>ab F (aa (FQ n O) λG=>ab G (aa (ir n (B,1)) λM=>some M) (aa (ir n (false,1)) λM=>some M)) (aa (ir n (false,1)) λG=>some G)) λ(F:(Option eO))=>some F
noncomputable def Qf:=ak (qk [.st 10,.st 20,.st 30] [.cI 339 (.st 43)] [ri,mf,Qb,yD] [] Tryz.func130) FU
noncomputable def ER(n:Nat):(dC×Int)→Option Bool:=λ(j,k)=>some (aj j.number k)
noncomputable def O5:=ak (qk [.st 18,.box tI] [.bool] [] [] Tryz.func215) ER
noncomputable def zn(n:Nat):((List dC)×Int)→Option Int:=λ(k,B)=>aT (aN n (λj:Int=>ab (ai j (k.length:Int)) (aa (aA k j) λF=>aa (ER n (F,B)) λG=>ab G (some (.inr (.inr j))) (ag (an (j+1)) <|some (.inl (j+1)))) (some (.inr (.inl ())))) 0) λ(j:Unit)=>some (-1)
noncomputable def EA:=ak (qk [.list (.st 18),.ar 215 (.box tI)] [tI] [O5] [] Tryz.func216) zn
noncomputable def GD(n:Nat):((List dC)×Int)→Option Bool:=λ(j,k)=>aa (zn n (j,k)) λB=>some (aB 0 B)
noncomputable def Q7:=ak (qk [.list (.st 18),.ar 215 (.box tI)] [.bool] [EA] [] Tryz.func245) GD
noncomputable def EY(n:Nat):((List dC)×Int)→Option Bool:=λ(j,k)=>aa (GD n (j,k)) λB=>some B
noncomputable def Pc:=ak (qk [.list (.st 18),.ar 215 (.box tI)] [.bool] [Q7] [] Tryz.func160) EY
noncomputable def EP(n:Nat):(ct×Int)→Option (Int×Int):=λ(k,B)=>aa (aa (pn n k) λF=>ab (!F) (some true) (aa (im n (B,(0,100000))) λj=>some (!j))) λ(F:Bool)=>ab F (some (0,1)) (aa (zn n (k.bars,B)) λj=>ab (ai j 0) (some (0,4)) (ag (an (j+1)) <|ag ((aB 0 (j+1))&&(aB (j+1) (k.bars.length:Int))) <|aa (EY n ((List.drop (Int.toNat (j+1)) k.bars),B)) λG=>ab G (some (0,5)) (some (j,0))))
noncomputable def O4:=ak (qk [.st 20,tI] [tI,tI] [ra,pk,EA,Pc] [] Tryz.func135) EP
noncomputable def EW(n:Nat):(ct×(Int×Int))→Option (aY×Int):=λ(k,F,B)=>aa (aa (pn n k) λG=>ab (!G) (some true) (ag (an ((k.bars.length:Int)-1)) <|aa (im n (F,(0,((k.bars.length:Int)-1)))) λj=>ab (!j) (some true) (aa (im n (B,(0,20000))) λM=>some (!M)))) λ(G:Bool)=>ab G (some ((⟨0,0⟩:aY),1)) (aa (aA k.bars F) λj=>ab (aj j.pass 0) (some ((⟨j.bG,(max 1 B)⟩:aY),0)) (ab (ai 1 B) (some ((⟨0,0⟩:aY),30)) (some ((⟨j.bG,j.pass⟩:aY),0))))
noncomputable def Pa:=ak (qk [.st 20,tI,tI] [.st 26,tI] [ra,pk] [] Tryz.func138) EW
noncomputable def Gk(n:Nat):dG→Option Int:=λ(j)=>some j.id
noncomputable def QO:=ak (qk [.st 5] [tI] [] [] Tryz.func301) Gk
noncomputable def Gl(n:Nat):(dG×(Unit×Int))→Option Bool:=λ(j,F,k)=>aa (Gk n j) λB=>some (aj B k)
noncomputable def QP:=ak (qk [.st 5,.box (.fn 301),.box tI] [.bool] [QO] [] Tryz.func346) Gl
noncomputable def GP(n:Nat):((List dG)×(Unit×Int))→Option Int:=λ(k,B)=>aT (aN n (λj:Int=>ab (ai j (k.length:Int)) (aa (aA k j) λF=>aa (Gl n (F,(B.1,B.2))) λG=>ab G (some (.inr (.inr j))) (ag (an (j+1)) <|some (.inl (j+1)))) (some (.inr (.inl ())))) 0) λ(j:Unit)=>some (-1)
noncomputable def Rj:=ak (qk [.list (.st 5),.ar 346 (.aw (.box (.fn 301)) (.box tI))] [tI] [QP] [] Tryz.func345) GP
noncomputable def Gm(n:Nat):((List dG)×(Int×Unit))→Option (Int×Bool):=λ(k,B,F)=>aa (GP n (k,(F,B))) λj=>some ((max j 0),(aB 0 j))
noncomputable def QQ:=ak (qk [.list (.st 5),tI,.fn 301] [tI,.bool] [Rj] [] Tryz.func300) Gm
noncomputable def Gf(n:Nat):(Score×Int)→Option (Int×(Bool×Int)):=λ(j,k)=>aa (zk n (j,k)) λF=>ab (!F) (some (0,(false,1))) (aa (Gm n (j.bars,(k,()))) λB=>some (B.1,(B.2,0)))
noncomputable def QJ:=ak (qk [.st 10,tI] [tI,.bool,tI] [Ew,QQ] [] Tryz.func217) Gf
noncomputable def F0(n:Nat):(Cut×aY)→Option Bool:=λ(j,k)=>aa (ab (aB j.from_ k.bG) (ab (ai k.bG j.cW) (ab (aj j.pass 0) (some true) (some (aj j.pass k.pass))) (some false)) (some false)) λ(B:Bool)=>some B
noncomputable def Qq:=ak (qk [.st 14,.box (.st 26)] [.bool] [] [] Tryz.func182) F0
noncomputable def GQ(n:Nat):((List Cut)×aY)→Option Int:=λ(k,B)=>aT (aN n (λj:Int=>ab (ai j (k.length:Int)) (aa (aA k j) λF=>aa (F0 n (F,B)) λG=>ab G (some (.inr (.inr j))) (ag (an (j+1)) <|some (.inl (j+1)))) (some (.inr (.inl ())))) 0) λ(j:Unit)=>some (-1)
noncomputable def Rl:=ak (qk [.list (.st 14),.ar 182 (.box (.st 26))] [tI] [Qq] [] Tryz.func266) GQ
noncomputable def rq(n:Nat):((List Cut)×aY)→Option Bool:=λ(j,k)=>aa (GQ n (j,k)) λB=>some (aB 0 B)
noncomputable def Q0:=ak (qk [.list (.st 14),.ar 182 (.box (.st 26))] [.bool] [Rl] [] Tryz.func183) rq
noncomputable def ze(n:Nat):Form→Option ((List aY)×Int):=λ(Z)=>aa (pv n Z) λah=>ab (!ah) (some (([]:List aY),1)) (aa (aa (zg n (⟨Z⟩:Order)) λY=>aa (ab (aj Y.form.jump.at_ 0) (some Y.form.bars) (some Y.form.jump.at_)) λ(af:Int)=>aa (aa (rn n (Y,(0,(af,true)))) λU=>aN n (λF:((List (Int×Int))×(Int×(List aY)))=>ab (ai F.2.1 U.2.1) (aa (aa (aT (aN n (λk:Int=>ab (ai k (U.2.2.1.form.cj.length:Int)) (aa (aA U.2.2.1.form.cj k) λG=>ab (aj G.from_ F.2.1) (some (.inr (.inr k))) (ag (an (k+1)) <|some (.inl (k+1)))) (some (.inr (.inl ())))) 0) λ(k:Unit)=>some (-1)) λ(k:Int)=>ab (ai k 0) (ag (an ((aZ F.1 F.2.1 0)+1)) <|aa (aa (rq n (Z.cS,(⟨F.2.1,(aZ (bc F.1 F.2.1 ((aZ F.1 F.2.1 0)+1)) F.2.1 0)⟩:aY))) λG=>ab (!G) (ag (decide ((List.append F.2.2 ((⟨F.2.1,(aZ (bc F.1 F.2.1 ((aZ F.1 F.2.1 0)+1)) F.2.1 0)⟩:aY)::([]:List aY))).length*16≤140737488355328∧(List.append F.2.2 ((⟨F.2.1,(aZ (bc F.1 F.2.1 ((aZ F.1 F.2.1 0)+1)) F.2.1 0)⟩:aY)::([]:List aY))).length≤9223372036854775807)) <|some (List.append F.2.2 ((⟨F.2.1,(aZ (bc F.1 F.2.1 ((aZ F.1 F.2.1 0)+1)) F.2.1 0)⟩:aY)::([]:List aY)))) (some F.2.2)) λ(G:(List aY))=>some ((bc F.1 F.2.1 ((aZ F.1 F.2.1 0)+1)),(F.2.1,G))) (aa (aA U.2.2.1.form.cj k) λG=>aa (ab U.2.2.2 (some 1) (some G.times)) λ(M:Int)=>aa (aN n (λO:(Int×((List (Int×Int))×(List aY)))=>ab (aB O.1 G.times) (aa (aN n (λj:(Int×((List (Int×Int))×(List aY)))=>ab (ai j.1 G.cW) (aa (aa (rp n (U.2.2.1,(j.1,O.1))) λB=>ab (!B) (ag (an ((aZ j.2.1 j.1 0)+1)) <|aa (aa (rq n (Z.cS,(⟨j.1,(aZ (bc j.2.1 j.1 ((aZ j.2.1 j.1 0)+1)) j.1 0)⟩:aY))) λad=>ab (!ad) (ag (decide ((List.append j.2.2 ((⟨j.1,(aZ (bc j.2.1 j.1 ((aZ j.2.1 j.1 0)+1)) j.1 0)⟩:aY)::([]:List aY))).length*16≤140737488355328∧(List.append j.2.2 ((⟨j.1,(aZ (bc j.2.1 j.1 ((aZ j.2.1 j.1 0)+1)) j.1 0)⟩:aY)::([]:List aY))).length≤9223372036854775807)) <|some (List.append j.2.2 ((⟨j.1,(aZ (bc j.2.1 j.1 ((aZ j.2.1 j.1 0)+1)) j.1 0)⟩:aY)::([]:List aY)))) (some j.2.2)) λ(ad:(List aY))=>some ((bc j.2.1 j.1 ((aZ j.2.1 j.1 0)+1)),ad)) (some (j.2.1,j.2.2))) λ(B:((List (Int×Int))×(List aY)))=>ag (an (j.1+1)) <|some (.inl ((j.1+1),(B.1,B.2)))) (some (.inr (j.2.1,j.2.2)))) (G.from_,(O.2.1,O.2.2))) λ(j:((List (Int×Int))×(List aY)))=>ag (an (O.1+1)) <|some (.inl ((O.1+1),(j.1,j.2)))) (some (.inr (O.2.1,O.2.2)))) (M,(F.1,F.2.2))) λ(O:((List (Int×Int))×(List aY)))=>ag (an (G.cW-1)) <|some (O.1,((G.cW-1),O.2)))) λ(k:((List (Int×Int))×(Int×(List aY))))=>ag (an (k.2.1+1)) <|some (.inl (k.1,((k.2.1+1),k.2.2)))) (some (.inr (F.2.2,F.1)))) (([]:List (Int×Int)),(U.1,([]:List aY)))) λ(U:((List aY)×(List (Int×Int))))=>aa (rn n (Y,(Y.form.jump.to,(Y.form.jump.eR,false)))) λF=>aN n (λk:((List aY)×((List (Int×Int))×Int))=>ab (ai k.2.2 F.2.1) (aa (aa (aT (aN n (λG:Int=>ab (ai G (F.2.2.1.form.cj.length:Int)) (aa (aA F.2.2.1.form.cj G) λM=>ab (aj M.from_ k.2.2) (some (.inr (.inr G))) (ag (an (G+1)) <|some (.inl (G+1)))) (some (.inr (.inl ())))) 0) λ(G:Unit)=>some (-1)) λ(G:Int)=>ab (ai G 0) (ag (an ((aZ k.2.1 k.2.2 0)+1)) <|aa (aa (rq n (Z.cS,(⟨k.2.2,(aZ (bc k.2.1 k.2.2 ((aZ k.2.1 k.2.2 0)+1)) k.2.2 0)⟩:aY))) λM=>ab (!M) (ag (decide ((List.append k.1 ((⟨k.2.2,(aZ (bc k.2.1 k.2.2 ((aZ k.2.1 k.2.2 0)+1)) k.2.2 0)⟩:aY)::([]:List aY))).length*16≤140737488355328∧(List.append k.1 ((⟨k.2.2,(aZ (bc k.2.1 k.2.2 ((aZ k.2.1 k.2.2 0)+1)) k.2.2 0)⟩:aY)::([]:List aY))).length≤9223372036854775807)) <|some (List.append k.1 ((⟨k.2.2,(aZ (bc k.2.1 k.2.2 ((aZ k.2.1 k.2.2 0)+1)) k.2.2 0)⟩:aY)::([]:List aY)))) (some k.1)) λ(M:(List aY))=>some ((bc k.2.1 k.2.2 ((aZ k.2.1 k.2.2 0)+1)),(k.2.2,M))) (aa (aA F.2.2.1.form.cj G) λM=>aa (ab F.2.2.2 (some 1) (some M.times)) λ(O:Int)=>aa (aN n (λj:(Int×((List aY)×(List (Int×Int))))=>ab (aB j.1 M.times) (aa (aN n (λB:(Int×((List aY)×(List (Int×Int))))=>ab (ai B.1 M.cW) (aa (aa (rp n (F.2.2.1,(B.1,j.1))) λad=>ab (!ad) (ag (an ((aZ B.2.2 B.1 0)+1)) <|aa (aa (rq n (Z.cS,(⟨B.1,(aZ (bc B.2.2 B.1 ((aZ B.2.2 B.1 0)+1)) B.1 0)⟩:aY))) λae=>ab (!ae) (ag (decide ((List.append B.2.1 ((⟨B.1,(aZ (bc B.2.2 B.1 ((aZ B.2.2 B.1 0)+1)) B.1 0)⟩:aY)::([]:List aY))).length*16≤140737488355328∧(List.append B.2.1 ((⟨B.1,(aZ (bc B.2.2 B.1 ((aZ B.2.2 B.1 0)+1)) B.1 0)⟩:aY)::([]:List aY))).length≤9223372036854775807)) <|some (List.append B.2.1 ((⟨B.1,(aZ (bc B.2.2 B.1 ((aZ B.2.2 B.1 0)+1)) B.1 0)⟩:aY)::([]:List aY)))) (some B.2.1)) λ(ae:(List aY))=>some ((bc B.2.2 B.1 ((aZ B.2.2 B.1 0)+1)),ae)) (some (B.2.2,B.2.1))) λ(ad:((List (Int×Int))×(List aY)))=>ag (an (B.1+1)) <|some (.inl ((B.1+1),(ad.2,ad.1)))) (some (.inr (B.2.1,B.2.2)))) (M.from_,(j.2.1,j.2.2))) λ(B:((List aY)×(List (Int×Int))))=>ag (an (j.1+1)) <|some (.inl ((j.1+1),(B.1,B.2)))) (some (.inr (j.2.1,j.2.2)))) (O,(k.1,k.2.1))) λ(j:((List aY)×(List (Int×Int))))=>ag (an (M.cW-1)) <|some (j.2,((M.cW-1),j.1)))) λ(G:((List (Int×Int))×(Int×(List aY))))=>ag (an (G.2.1+1)) <|some (.inl (G.2.2,(G.1,(G.2.1+1))))) (some (.inr k.1))) (U.1,(U.2,F.1))) λ(Y:(List aY))=>some (Y,0))
noncomputable def Ep:=ak (qk [.st 15] [.list (.st 26),tI] [ri,Eu,Er,Q0,Et] [] Tryz.func96) ze
noncomputable def He(n:Nat):((List aY)×aY)→Option Int:=λ(k,B)=>aT (aN n (λj:Int=>ab (ai j (k.length:Int)) (aa (aA k j) λF=>ab (KD B F) (some (.inr (.inr j))) (ag (an (j+1)) <|some (.inl (j+1)))) (some (.inr (.inl ())))) 0) λ(j:Unit)=>some (-1)
noncomputable def RI:=ak (qk [.list (.st 26),.st 26] [tI] [] [] Tryz.func302) He
noncomputable def zb(n:Nat):(Form×aY)→Option (Int×(Bool×Int)):=λ(B,F)=>aa (ze n B) λj=>ab (!(aj j.2 0)) (some (0,(false,j.2))) (aa (He n (j.1,F)) λk=>some ((max k 0),((aB 0 k),0)))
noncomputable def Qo:=ak (qk [.st 15,.st 26] [tI,.bool,tI] [Ep,RI] [] Tryz.func220) zb
noncomputable def FT(n:Nat):(Score×(Room×cY))→Option (Option eO):=λ(M,k,B)=>aa (Gf n (M,B.visit.bG)) λF=>ab (!F.2.1) (some (some (⟨32⟩:eO))) (aa (aa (aA M.bars F.1) λG=>aa (rm n (B.at_,G.length)) λU=>aa (ab (aj U.2 0) (aa (ir n ((ai U.1 0),3)) λj=>some j) (aa (ir n (false,3)) λj=>some j)) λ(j:(Option eO))=>ab (!(j.isNone)) (some j) (ag (an (0+1)) <|aa (zb n ((⟨k.form.bars,k.form.cj,k.form.dt,k.form.jump,([]:List Cut)⟩:Form),(⟨F.1,B.visit.pass⟩:aY))) λZ=>aa (ir n (Z.2.1,30)) λY=>ab (!(Y.isNone)) (some Y) (ag (an (1+1)) <|aa (zb n (k.form,(⟨F.1,B.visit.pass⟩:aY))) λad=>aa (ir n (ad.2.1,31)) λO=>ab (!(O.isNone)) (some O) (ag (an (2+1)) <|some (none:Option eO))))) λ(G:(Option eO))=>some G)
noncomputable def Qc:=ak (qk [.st 10,.st 30,.st 27] [.cI 339 (.st 43)] [QJ,yE,yD,Qo] [] Tryz.func140) FT
noncomputable def FP(n:Nat):(Score×(ct×(Room×Call)))→Option (cY×Int):=λ(U,M,ad,j)=>aa (aa (FU n (U,(M,ad))) λF=>ab (!(F.isNone)) (some (F,(0,(0,(0,0))))) (ag (an (0+1)) <|aa (yJ n j) λO=>aa (ir n (O,1)) λae=>ab (!(ae.isNone)) (some (ae,(0,(0,(0,0))))) (ag (an (1+1)) <|aa (ab (!(j.letter == (⟨⟨[]⟩⟩:ByteArray))) (aa (yQ n (M,j.letter)) λk=>some (k.2,k.1)) (aa (EP n (M,j.number)) λk=>some (k.2,k.1))) λ(k:(Int×Int))=>ag (an (k.2+j.bars)) <|aa (ir n ((aj k.1 0),k.1)) λaf=>ab (!(af.isNone)) (some (af,(0,(0,(0,0))))) (ag (an (2+1)) <|aa (ab (aB 0 (k.2+j.bars)) (aa (ir n ((ai (k.2+j.bars) (M.bars.length:Int)),21)) λG=>some G) (aa (ir n (false,21)) λG=>some G)) λ(G:(Option eO))=>ab (!(G.isNone)) (some (G,(0,(0,(0,0))))) (ag (an (3+1)) <|aa (EW n (M,((k.2+j.bars),j.pass))) λB=>aa (ir n ((aj B.2 0),B.2)) λY=>ab (!(Y.isNone)) (some (Y,(B.1.bG,(B.1.pass,(j.fB.n,j.fB.d))))) (ag (an (4+1)) <|aa (FT n (U,(ad,(⟨B.1,j.fB⟩:cY)))) λZ=>ab (!(Z.isNone)) (some (Z,(B.1.bG,(B.1.pass,(j.fB.n,j.fB.d))))) (ag (an (5+1)) <|some ((none:Option eO),(B.1.bG,(B.1.pass,(j.fB.n,j.fB.d))))))))))) λ(F:((Option eO)×(Int×(Int×(Int×Int)))))=>ab (!(F.1.isNone)) (aa (Sj n F.1) λO=>some ((⟨(⟨0,0⟩:aY),(⟨0,0⟩:Rat)⟩:cY),O)) (some ((⟨(⟨F.2.1,F.2.2.1⟩:aY),(⟨F.2.2.2.1,F.2.2.2.2⟩:Rat)⟩:cY),0))
noncomputable def P9:=ak (qk [.st 10,.st 20,.st 30,.st 25] [.st 27,tI] [Qf,DT,yD,D2,O4,Pa,Qc,Qa] [] Tryz.func80) FP
noncomputable def Hk(n:Nat):((List c8)×((List ct)×((List Decision)×(aJ×(Int×Call)))))→Option (cY×Int):=λ(G,k,M,B,O,U)=>aa (Ht n (G,(M,(B,O)))) λj=>ab (!(aj j.2 0)) (some ((⟨(⟨0,0⟩:aY),(⟨0,0⟩:Rat)⟩:cY),j.2)) (aa (Hm n k) λZ=>ab (!Z) (some ((⟨(⟨0,0⟩:aY),(⟨0,0⟩:Rat)⟩:cY),1)) (aa (Hp n (k,(B.dR,()))) λY=>ab (!Y.2) (some ((⟨(⟨0,0⟩:aY),(⟨0,0⟩:Rat)⟩:cY),4)) (aa (FP n (j.1.score,(Y.1,(j.1.room,U)))) λF=>some (F.1,F.2))))
noncomputable def RN:=ak (qk [.list (.st 17),.list (.st 20),.list (.st 24),.st 3,tI,.st 25] [.st 27,tI] [RW,RP,RS,P9] [] Tryz.func35) Hk
noncomputable def uX(n:Nat):(fZ×((List Decision)×((List aJ)×(Int×Call))))→Option ((List cY)×((List Int)×Int)):=λ(O,F,G,M,U)=>ab (ai 200 (G.length:Int)) (some (([]:List cY),(([]:List Int),2))) (aa (ab (ai M 0) (some true) (ab (ai 1000000000 M) (some true) (aa (yJ n U) λY=>ab (!Y) (some true) (aa (Gc n (⟨O,F⟩:kL)) λk=>ab (!k) (some true) (aa (zj n (G,(F.length:Int))) λj=>some (!j)))))) λ(Y:Bool)=>ab Y (some (([]:List cY),(([]:List Int),1))) (aa (aa (Gb n ((⟨O,F⟩:kL),(G,(M,U)))) λk=>aN n (λj:(Int×((List cY)×(List Int)))=>ab (ai j.1 (k.1.length:Int)) (aa (aA k.1 j.1) λZ=>aa (Hk n (k.2.1.ez.fz,(k.2.1.ez.jY,(k.2.1.sR,(Z,(k.2.2.1,k.2.2.2)))))) λB=>ag (decide ((List.append j.2.1 (B.1::([]:List cY))).length*32≤140737488355328∧(List.append j.2.1 (B.1::([]:List cY))).length≤9223372036854775807)) <|ag (decide ((List.append j.2.2 (B.2::([]:List Int))).length*8≤140737488355328∧(List.append j.2.2 (B.2::([]:List Int))).length≤9223372036854775807)) <|ag (an (j.1+1)) <|some (.inl ((j.1+1),((List.append j.2.1 (B.1::([]:List cY))),(List.append j.2.2 (B.2::([]:List Int))))))) (some (.inr (j.2.1,j.2.2)))) (0,(([]:List cY),([]:List Int)))) λ(k:((List cY)×(List Int)))=>some (k.1,(k.2,0))))
noncomputable def QC:=ak (qk [.st 23,.list (.st 24),.list (.st 3),tI,.st 25] [.list (.st 27),.list tI,tI] [DT,QH,Ev,QG,RN] [] Tryz.func8) uX
noncomputable def zi(n:Nat):((List Decision)×(List aJ))→Option ((List Int)×Int):=λ(F,G)=>ab (ai 200 (G.length:Int)) (some (([]:List Int),2)) (aT (aN n (λk:Int=>ab (ai k (F.length:Int)) (aa (aA F k) λM=>ag (an (k+1)) <|ab (!(aj M.number (k+1))) (some (.inr (.inr (([]:List Int),1)))) (ag (an (k+1)) <|some (.inl (k+1)))) (some (.inr (.inl ())))) 0) λ(k:Unit)=>aa (ab (ai 1000 (F.length:Int)) (some true) (aa (zj n (G,(F.length:Int))) λM=>some (!M))) λ(M:Bool)=>ab M (some (([]:List Int),1)) (aa (aN n (λj:(Int×(List Int))=>ab (ai j.1 (G.length:Int)) (aa (aA G j.1) λB=>aa (ab (ai B.known (F.length:Int)) (ag (decide ((List.append j.2 (B.id::([]:List Int))).length*8≤140737488355328∧(List.append j.2 (B.id::([]:List Int))).length≤9223372036854775807)) <|some (List.append j.2 (B.id::([]:List Int)))) (some j.2)) λ(O:(List Int))=>ag (an (j.1+1)) <|some (.inl ((j.1+1),O))) (some (.inr j.2))) (0,([]:List Int))) λ(j:(List Int))=>aa (Hi n j) λB=>some (B,0)))
noncomputable def QF:=ak (qk [.list (.st 24),.list (.st 3)] [.list tI,tI] [Ev] [TU] Tryz.func6) zi
noncomputable def Ga(n:Nat):(c8×Room)→Option Bool:=λ(j,k)=>some (aj j.score.version k.version)
noncomputable def QE:=ak (qk [.st 17,.box (.st 30)] [.bool] [] [] Tryz.func23) Ga
noncomputable def Ha(n:Nat):((List c8)×Room)→Option Int:=λ(k,B)=>aT (aN n (λj:Int=>ab (ai j (k.length:Int)) (aa (aA k j) λF=>aa (Ga n (F,B)) λG=>ab G (some (.inr (.inr j))) (ag (an (j+1)) <|some (.inl (j+1)))) (some (.inr (.inl ())))) 0) λ(j:Unit)=>some (-1)
noncomputable def RF:=ak (qk [.list (.st 17),.ar 23 (.box (.st 30))] [tI] [QE] [] Tryz.func22) Ha
noncomputable def EK(n:Nat):Rat→Option Bool:=λ(j)=>aa (aa (jC n j) λk=>ab k (ab (aB 0 j.n) (ag (!(aj j.d 0)) <|some (aj (Int.tmod 1680 j.d) 0)) (some false)) (some false)) λ(k:Bool)=>some k
noncomputable def OZ:=ak (qk [.st 4] [.bool] [me] [] Tryz.func325) EK
noncomputable def EJ(n:Nat):Written→Option Bool:=λ(j)=>aa (ab (aB 0 j.ek) (ab (aB j.ek 9) (ab (aB 0 j.eX) (ab (aB j.eX 20) (aa (EK n j.start) λk=>ab k (aa (iq n j.bP) λB=>some B) (some false)) (some false)) (some false)) (some false)) (some false)) λ(k:Bool)=>some k
noncomputable def OY:=ak (qk [.st 33] [.bool] [OZ,lr] [] Tryz.func268) EJ
noncomputable def EM(n:Nat):Written→Option Bool:=λ(j)=>aa (EJ n j) λk=>some (!k)
noncomputable def O1:=ak (qk [.st 33] [.bool] [OY] [] Tryz.func267) EM
noncomputable def GL(n:Nat):((List Written)×Unit)→Option Bool:=λ(k,G)=>aa (aT (aN n (λj:Int=>ab (ai j (k.length:Int)) (aa (aA k j) λB=>aa (EM n B) λF=>ab F (some (.inr (.inr j))) (ag (an (j+1)) <|some (.inl (j+1)))) (some (.inr (.inl ())))) 0) λ(j:Unit)=>some (-1)) λ(j:Int)=>some (aB 0 j)
noncomputable def Rf:=ak (qk [.list (.st 33),.fn 267] [.bool] [O1] [] Tryz.func188) GL
noncomputable def EL(n:Nat):View→Option Bool:=λ(B)=>aT (aN n (λj:(Int×Int)=>ab (ai j.2 (B.jx.length:Int)) (aa (aA B.jx j.2) λk=>ag (an (j.1+(k.notes.length:Int))) <|aa (GL n (k.notes,())) λF=>ab F (some (.inr (.inr false))) (ag (an (j.2+1)) <|some (.inl ((j.1+(k.notes.length:Int)),(j.2+1))))) (some (.inr (.inl j.1)))) (0,0)) λ(j:Int)=>aa (ab (aB (B.jx.length:Int) 4000) (some (aB j 20000)) (some false)) λ(k:Bool)=>some k
noncomputable def O0:=ak (qk [.st 35] [.bool] [Rf] [] Tryz.func184) EL
noncomputable def Gw(n:Nat):(List Int)→Option (List Int):=λ(j)=>some j
noncomputable def QZ:=ak (qk [.list tI] [.ar 274 (.box (.list tI))] [] [] Tryz.func187) Gw
noncomputable def GK(n:Nat):((List Written)×Int)→Option Bool:=λ(k,B)=>aa (aT (aN n (λj:Int=>ab (ai j (k.length:Int)) (aa (aA k j) λF=>ab (aj F.eX B) (some (.inr (.inr j))) (ag (an (j+1)) <|some (.inl (j+1)))) (some (.inr (.inl ())))) 0) λ(j:Unit)=>some (-1)) λ(j:Int)=>some (aB 0 j)
noncomputable def Re:=ak (qk [.list (.st 33),.ar 189 (.box tI)] [.bool] [] [] Tryz.func188) GK
noncomputable def EH(n:Nat):(dg×(List Int))→Option Int:=λ(G,M)=>aa (aa (Gw n M) λk=>ag (an ((k.length:Int)-1)) <|aN n (λj:(Int×Int)=>ab (aB 0 j.1) (aa (aA k j.1) λF=>aa (aa (GK n (G.notes,F)) λB=>ab B (some F) (some j.2)) λ(B:Int)=>ag (an (j.1-1)) <|some (.inl ((j.1-1),B))) (some (.inr j.2))) (((k.length:Int)-1),0)) λ(k:Int)=>some k
noncomputable def OW:=ak (qk [.st 34,.box (.list tI)] [.ar 190 (.box tI)] [QZ,Re] [] Tryz.func186) EH
noncomputable def EN(n:Nat):(dg×(List Int))→Option dg:=λ(B,O)=>aa (EH n (B,O)) λM=>aa (ag (decide ((List.append ([]:List Written) B.notes).length*80≤140737488355328∧(List.append ([]:List Written) B.notes).length≤9223372036854775807)) <|some (List.append ([]:List Written) B.notes)) λ(F:(List Written))=>aa (aa (aT (aN n (λk:Int=>ab (ai k (F.length:Int)) (ag ((aB 0 k)&&(ai k (F.length:Int))) <|aa (aA F k) λj=>ab (!(aj j.eX M)) (some (.inr (.inr k))) (ag (an (k+1)) <|some (.inl (k+1)))) (some (.inr (.inl ())))) 0) λ(k:Unit)=>some (-1)) λ(k:Int)=>ab (aj k (-1)) (some F) (aa (ag (an (k+1)) <|aN n (λj:(Int×(Int×(List Written)))=>ab (ai j.2.1 (j.2.2.length:Int)) (aa (ag ((aB 0 j.2.1)&&(ai j.2.1 (j.2.2.length:Int))) <|aa (aA j.2.2 j.2.1) λG=>ab (!(!(aj G.eX M))) (ag ((aB 0 j.1)&&(ai j.1 (j.2.2.length:Int))) <|aa (aA j.2.2 j.1) λU=>ag (an (j.1+1)) <|some ((j.1+1),(List.set j.2.2 (Int.toNat j.1) G))) (some (j.1,j.2.2))) λ(G:(Int×(List Written)))=>ag (an (j.2.1+1)) <|some (.inl (G.1,((j.2.1+1),G.2)))) (some (.inr (j.1,j.2.2)))) (k,((k+1),F))) λ(j:(Int×(List Written)))=>ag ((aB 0 j.1)&&(aB j.1 (j.2.length:Int))) <|ag ((aB 0 j.1)&&(aB j.1 ((List.append (List.take (Int.toNat j.1) j.2) (List.replicate (Int.toNat ((j.2.length:Int)-j.1)) ((⟨0,0,0,(⟨0,0⟩:Rat),(⟨0,0⟩:Rat),(⟨0,0,0⟩:bT)⟩:Written):Written))).length:Int))) <|some (List.take (Int.toNat j.1) (List.append (List.take (Int.toNat j.1) j.2) (List.replicate (Int.toNat ((j.2.length:Int)-j.1)) ((⟨0,0,0,(⟨0,0⟩:Rat),(⟨0,0⟩:Rat),(⟨0,0,0⟩:bT)⟩:Written):Written)))))) λ(k:(List Written))=>some (⟨B.bG,B.key,B.length,k⟩:dg)
noncomputable def O2:=ak (qk [.st 34,.box (.ar 186 (.box (.list tI)))] [.st 34] [OW] [] Tryz.func270) EN
noncomputable def EI(n:Nat):((List dg)×(List Int))→Option (List dg):=λ(B,F)=>aa (aN n (λj:(Int×(List dg))=>ab (ai j.1 (B.length:Int)) (aa (aA B j.1) λG=>aa (EN n (G,F)) λk=>ag (decide ((List.append j.2 (k::([]:List dg))).length*56≤140737488355328∧(List.append j.2 (k::([]:List dg))).length≤9223372036854775807)) <|ag (an (j.1+1)) <|some (.inl ((j.1+1),(List.append j.2 (k::([]:List dg)))))) (some (.inr j.2))) (0,([]:List dg))) λ(j:(List dg))=>some j
noncomputable def OX:=ak (qk [.list (.st 34),.ar 270 (.box (.ar 186 (.box (.list tI))))] [.list (.st 34)] [O2] [] Tryz.func269) EI
noncomputable def EO(n:Nat):(View×(List Int))→Option View:=λ(j,k)=>aa (EI n (j.jx,k)) λB=>some (⟨j.part,B⟩:View)
noncomputable def O3:=ak (qk [.st 35,.ar 186 (.box (.list tI))] [.st 35] [OX] [] Tryz.func185) EO
noncomputable def yP(n:Nat):(View×(List Int))→Option (View×Int):=λ(G,B)=>aT (aN n (λj:Int=>ab (ai j (B.length:Int)) (aa (aA B j) λF=>aa (ab (ai F 1) (some true) (ab (ai 20 F) (some true) (ab (ai 0 j) (ag (an (j-1)) <|aa (aA B (j-1)) λk=>some (aB F k)) (some false)))) λ(k:Bool)=>ab k (some (.inr (.inr ((⟨0,([]:List dg)⟩:View),1)))) (ag (an (j+1)) <|some (.inl (j+1)))) (some (.inr (.inl ())))) 0) λ(j:Unit)=>aa (EL n G) λF=>ab (!F) (some ((⟨0,([]:List dg)⟩:View),1)) (aa (EO n (G,B)) λk=>some (k,0))
noncomputable def OV:=ak (qk [.st 35,.list tI] [.st 35,tI] [O0,O3] [] Tryz.func97) yP
noncomputable def Gs(n:Nat):(Score×Part)→Option (Score×(Int×Part)):=λ(k,j)=>aa (ab (aj j.of 0) (some j.id) (some j.of)) λ(B:Int)=>some (k,(B,j))
noncomputable def QU:=ak (qk [.st 10,.st 8] [.ar 276 (.aw (.box (.st 10)) (.aw (.box tI) (.box (.st 8))))] [] [] Tryz.func191) Gs
noncomputable def Gh(n:Nat):(Score×Int)→Option ((List aV)×Int):=λ(F,M)=>aa (lu n F) λU=>ab (!U) (some (([]:List aV),1)) (aa (zl n (F.parts,(M,()))) λO=>ab (!O.2) (some (([]:List aV),22)) (aa (aa (aA F.parts O.1) λG=>aa (Gs n (F,G)) λk=>aN n (λB:(Int×(List aV))=>ab (ai B.1 (k.1.notes.length:Int)) (aa (aa (aA k.1.notes B.1) λj=>ab (!(aj j.part k.2.1)) (some B.2) (ag (an (j.bP.cJ+k.2.2.cJ)) <|ag (decide ((List.append B.2 ((⟨j.id,k.2.2.id,j.bG,j.ek,j.eX,j.start,j.length,(⟨j.bP.step,j.bP.alter,(j.bP.cJ+k.2.2.cJ)⟩:bT)⟩:aV)::([]:List aV))).length*96≤140737488355328∧(List.append B.2 ((⟨j.id,k.2.2.id,j.bG,j.ek,j.eX,j.start,j.length,(⟨j.bP.step,j.bP.alter,(j.bP.cJ+k.2.2.cJ)⟩:bT)⟩:aV)::([]:List aV))).length≤9223372036854775807)) <|some (List.append B.2 ((⟨j.id,k.2.2.id,j.bG,j.ek,j.eX,j.start,j.length,(⟨j.bP.step,j.bP.alter,(j.bP.cJ+k.2.2.cJ)⟩:bT)⟩:aV)::([]:List aV))))) λ(j:(List aV))=>ag (an (B.1+1)) <|some (.inl ((B.1+1),j))) (some (.inr B.2))) (0,([]:List aV))) λ(G:(List aV))=>some (G,0)))
noncomputable def QL:=ak (qk [.st 10,tI] [.list (.st 9),tI] [mf,Ez,QU] [] Tryz.func98) Gh
noncomputable def HE(n:Nat):(Part×Int)→Option Bool:=λ(j,k)=>some (aj j.id k)
noncomputable def Sb:=ak (qk [.st 8,.box tI] [.bool] [] [] Tryz.func193) HE
noncomputable def G1(n:Nat):((List Part)×Int)→Option Int:=λ(k,B)=>aT (aN n (λj:Int=>ab (ai j (k.length:Int)) (aa (aA k j) λF=>aa (HE n (F,B)) λG=>ab G (some (.inr (.inr j))) (ag (an (j+1)) <|some (.inl (j+1)))) (some (.inr (.inl ())))) 0) λ(j:Unit)=>some (-1)
noncomputable def Rv:=ak (qk [.list (.st 8),.ar 193 (.box tI)] [tI] [Sb] [] Tryz.func192) G1
noncomputable def uZ(n:Nat):(Score×Int)→Option (kM×Bool):=λ(j,B)=>aa (G1 n (j.parts,B)) λk=>ab (ai k 0) (some ((⟨(⟨0,0,0,0,0,(⟨0,0⟩:Interval),(⟨0,0,0⟩:bT),(⟨0,0,0⟩:bT)⟩:Part)⟩:kM),false)) (aa (aA j.parts k) λF=>some ((⟨F⟩:kM),true))
noncomputable def yH:=ak (qk [.st 10,tI] [.st 40,.bool] [Rv] [] Tryz.func99) uZ
noncomputable def uM(n:Nat):(Int×Int)→Option Bool:=λ(k,j)=>aa (ag (an (jz j)) <|ab (aB (jz j) k) (some (aB k j)) (some false)) λ(B:Bool)=>some B
noncomputable def Ps:=ak (qk [tI,tI] [.bool] [] [] Tryz.func356) uM
noncomputable def yT(n:Nat):bT→Option Int:=λ(j)=>aa (nO n j) λk=>some k.1
noncomputable def Pr:=ak (qk [.st 7] [tI] [rh] [] Tryz.func357) yT
noncomputable def uN(n:Nat):Part→Option Bool:=λ(j)=>aa (uO n j.shift) λG=>aa (ab (aj G.2 0) (aa (uM n (j.shift.steps,21)) λB=>ab B (aa (uM n (j.shift.fm,36)) λk=>ab k (aa (uM n (G.1,12)) λF=>some F) (some false)) (some false)) (some false)) λ(B:Bool)=>aa (ab B (aa (iq n j.low) λk=>ab k (aa (iq n j.high) λF=>ab F (aa (yT n j.low) λM=>aa (yT n j.high) λO=>some (aB M O)) (some false)) (some false)) (some false)) λ(k:Bool)=>some k
noncomputable def yw:=ak (qk [.st 8] [.bool] [yx,Ps,lr,Pr] [] Tryz.func331) uN
noncomputable def uQ(n:Nat):Int→Option Bool:=λ(j)=>aa (ab (aB (-7) j) (some (aB j 7)) (some false)) λ(k:Bool)=>some k
noncomputable def Pu:=ak (qk [tI] [.bool] [] [] Tryz.func358) uQ
noncomputable def uP(n:Nat):(Int×Interval)→Option (Int×(Interval×Int)):=λ(k,F)=>aa (uO n F) λB=>aa (ab (!(aj B.2 0)) (some true) (aa (uQ n k) λG=>some (!G))) λ(G:Bool)=>ab G (some (0,((⟨0,0⟩:Interval),1))) (ag (an (B.1+k)) <|aa (ab (ai 0 (B.1+k)) (aa (aN n (λj:(Int×Int)=>aa (uQ n j.2) λM=>ab (!M) (ag (an (1*12)) <|ag (an (j.2-(1*12))) <|ag (an (j.1+1)) <|some (.inl ((j.1+1),(j.2-(1*12))))) (some (.inr (j.1,j.2)))) (F.steps,(B.1+k))) λ(j:(Int×Int))=>some (j.1,j.2)) (aa (aN n (λj:(Int×Int)=>aa (uQ n j.2) λM=>ab (!M) (ag (an ((-1)*12)) <|ag (an (j.2-((-1)*12))) <|ag (an (j.1+(-1))) <|some (.inl ((j.1+(-1)),(j.2-((-1)*12))))) (some (.inr (j.1,j.2)))) (F.steps,(B.1+k))) λ(j:(Int×Int))=>some (j.1,j.2))) λ(j:(Int×Int))=>some (j.2,((⟨j.1,F.fm⟩:Interval),0)))
noncomputable def yy:=ak (qk [tI,.st 6] [tI,.st 6,tI] [yx,Pu] [] Tryz.func332) uP
noncomputable def FN(n:Nat):bT→Option Int:=λ(j)=>ag (an (7*j.cJ)) <|ag (an ((7*j.cJ)+j.step)) <|some ((7*j.cJ)+j.step)
noncomputable def P7:=ak (qk [.st 7] [tI] [] [] Tryz.func335) FN
noncomputable def FO(n:Nat):(Int×Int)→Option (Int×Int):=λ(k,j)=>ag (!(aj j 0)) <|ag (an (Int.tdiv k j)) <|ag (!(aj j 0)) <|ab (ai (Int.tmod k j) 0) (ag (an ((Int.tdiv k j)-1)) <|ag (an ((Int.tmod k j)+j)) <|some (((Int.tdiv k j)-1),((Int.tmod k j)+j))) (some ((Int.tdiv k j),(Int.tmod k j)))
noncomputable def P8:=ak (qk [tI,tI] [tI,tI] [] [] Tryz.func334) FO
noncomputable def y4(n:Nat):(bT×Interval)→Option (bT×Int):=λ(B,j)=>aa (aa (iq n B) λO=>ab (!O) (some true) (aa (y5 n j) λG=>some (!G))) λ(O:Bool)=>ab O (some ((⟨0,0,0⟩:bT),1)) (ab (Kz j (⟨0,0⟩:Interval)) (some (B,0)) (aa (FN n B) λG=>ag (an (G+j.steps)) <|aa (FO n ((G+j.steps),7)) λk=>aa (uU n B) λF=>ag (an (F+j.fm)) <|aa (uU n (⟨k.2,0,k.1⟩:bT)) λM=>ag (an ((F+j.fm)-M)) <|aa (iq n (⟨k.2,((F+j.fm)-M),k.1⟩:bT)) λU=>ab (!U) (some ((⟨0,0,0⟩:bT),3)) (some ((⟨k.2,((F+j.fm)-M),k.1⟩:bT),0))))
noncomputable def Eh:=ak (qk [.st 7,.st 6] [.st 7,tI] [lr,Ei,P7,P8,Ej] [] Tryz.func285) y4
noncomputable def E9(n:Nat):(Part×(Int×bT))→Option (bT×Int):=λ(F,M,G)=>aa (aa (aa (uN n F) λj=>ab (!j) (some (false,(0,0))) (aa (pr n F.shift) λk=>aa (uP n (M,k.1)) λB=>aa (ab (!(aj k.2 0)) (some true) (some (!(aj B.2.2 0)))) λ(O:Bool)=>ab O (some (false,(0,0))) (some (true,(B.2.1.steps,B.2.1.fm))))) λ(j:(Bool×(Int×Int)))=>ab (!j.1) (some (true,(j.2.1,j.2.2))) (aa (iq n G) λk=>some ((!k),(j.2.1,j.2.2)))) λ(j:(Bool×(Int×Int)))=>ab j.1 (some ((⟨0,0,0⟩:bT),1)) (aa (y4 n (G,(⟨j.2.1,j.2.2⟩:Interval))) λk=>some (k.1,k.2))
noncomputable def Pq:=ak (qk [.st 8,tI,.st 7] [.st 7,tI] [yw,uG,yy,lr,Eh] [] Tryz.func277) E9
noncomputable def HH(n:Nat):(kM×(dG×aV))→Option Written:=λ(k,B,j)=>aa (E9 n (k.part,(B.key,j.bP))) λF=>some (⟨j.id,j.ek,j.eX,j.start,j.length,F.1⟩:Written)
noncomputable def Sf:=ak (qk [.st 40,.st 5,.st 9] [.st 33] [Pq] [] Tryz.func195) HH
noncomputable def E7(n:Nat):(Part×Int)→Option (Int×Int):=λ(j,G)=>aa (aa (uN n j) λk=>ab (!k) (some (false,0)) (aa (pr n j.shift) λB=>aa (uP n (G,B.1)) λF=>aa (ab (!(aj B.2 0)) (some true) (some (!(aj F.2.2 0)))) λ(M:Bool)=>ab M (some (false,0)) (some (true,F.1)))) λ(k:(Bool×Int))=>ab (!k.1) (some (0,1)) (some (k.2,0))
noncomputable def Po:=ak (qk [.st 8,tI] [tI,tI] [yw,uG,yy] [] Tryz.func278) E7
noncomputable def zt(n:Nat):(kM×(dG×(List Written)))→Option dg:=λ(k,j,B)=>aa (E7 n (k.part,j.key)) λF=>some (⟨j.id,F.1,j.length,B⟩:dg)
noncomputable def ED:=ak (qk [.st 40,.st 5,.list (.st 33)] [.st 34] [Po] [] Tryz.func196) zt
noncomputable def HB(n:Nat):(Score×Int)→Option (View×Int):=λ(F,Y)=>aa (Gh n (F,Y)) λG=>ab (!(aj G.2 0)) (some ((⟨0,([]:List dg)⟩:View),G.2)) (aa (uZ n (F,Y)) λM=>aa (aN n (λk:(Int×((List aV)×(List dg)))=>ab (ai k.1 (F.bars.length:Int)) (aa (aA F.bars k.1) λO=>aa (aN n (λj:((List aV)×(List Written))=>aa (ab (ai 0 (j.1.length:Int)) (aa (aA j.1 0) λB=>some (aj B.bG O.id)) (some false)) λ(B:Bool)=>ab B (aa (aA j.1 0) λZ=>aa (HH n (M.1,(O,Z))) λU=>ag (decide ((List.append j.2 (U::([]:List Written))).length*80≤140737488355328∧(List.append j.2 (U::([]:List Written))).length≤9223372036854775807)) <|ag ((aB 0 1)&&(aB 1 (j.1.length:Int))) <|some (.inl ((List.drop (Int.toNat 1) j.1),(List.append j.2 (U::([]:List Written)))))) (some (.inr (j.1,j.2)))) (k.2.1,([]:List Written))) λ(j:((List aV)×(List Written)))=>aa (zt n (M.1,(O,j.2))) λB=>ag (decide ((List.append k.2.2 (B::([]:List dg))).length*56≤140737488355328∧(List.append k.2.2 (B::([]:List dg))).length≤9223372036854775807)) <|ag (an (k.1+1)) <|some (.inl ((k.1+1),(j.1,(List.append k.2.2 (B::([]:List dg))))))) (some (.inr k.2.2))) (0,(G.1,([]:List dg)))) λ(k:(List dg))=>some ((⟨M.1.part.id,k⟩:View),0))
noncomputable def R8:=ak (qk [.st 10,tI] [.st 35,tI] [QL,yH,Sf,ED] [] Tryz.func55) HB
noncomputable def py(n:Nat):Rat→Option Int:=λ(j)=>aa (aa (jC n j) λk=>ab (!k) (some true) (ab (ai j.n 0) (some true) (ag (!(aj j.d 0)) <|some (!(aj (Int.tmod 1680 j.d) 0))))) λ(k:Bool)=>ab k (some (-1)) (ag (!(aj j.d 0)) <|ag (an (Int.tdiv 1680 j.d)) <|ag (an (j.n*(Int.tdiv 1680 j.d))) <|some (j.n*(Int.tdiv 1680 j.d)))
noncomputable def EE:=ak (qk [.st 4] [tI] [me] [] Tryz.func329) py
noncomputable def zr(n:Nat):Written→Option Int:=λ(j)=>aa (nO n j.bP) λk=>some k.1
noncomputable def Se:=ak (qk [.st 33] [tI] [rh] [] Tryz.func328) zr
noncomputable def HG(n:Nat):(Written×Written)→Option Int:=λ(j,k)=>aa (py n j.start) λF=>aa (py n k.start) λG=>aa (nM n (F,G)) λM=>aa (nM n (j.ek,k.ek)) λO=>aa (zr n j) λU=>aa (zr n k) λY=>aa (nM n (U,Y)) λZ=>aa (nM n (j.id,k.id)) λab=>aa (rk n (M::(O::(Z::(ab::([]:List Int)))))) λB=>some B
noncomputable def Sd:=ak (qk [.st 33,.st 33] [tI] [EE,DU,Se,uE] [] Tryz.func280) HG
noncomputable def Hf(n:Nat):((List Written)×Unit)→Option Bool:=λ(k,M)=>aT (ag (an ((k.length:Int)-1)) <|aN n (λj:Int=>ab (ai 0 j) (aa (aA k j) λB=>ag (an (j-1)) <|aa (aA k (j-1)) λF=>aa (HG n (B,F)) λG=>ab (ai G 0) (some (.inr (.inr false))) (ag (an (j-1)) <|some (.inl (j-1)))) (some (.inr (.inl ())))) ((k.length:Int)-1)) λ(j:Unit)=>some true
noncomputable def RJ:=ak (qk [.list (.st 33),.fn 280] [.bool] [Sd] [] Tryz.func279) Hf
noncomputable def u7(n:Nat):(Int×(Int×Int))→Option Bool:=λ(j,k,B)=>aa (ab (aB k j) (some (aB j B)) (some false)) λ(F:Bool)=>some F
noncomputable def Sg:=ak (qk [tI,tI,tI] [.bool] [] [] Tryz.func330) u7
noncomputable def HF(n:Nat):(Written×Rat)→Option Bool:=λ(j,M)=>aa (aa (u7 n (j.id,(1,1000000))) λF=>ab F (aa (u7 n (j.ek,(0,9))) λk=>ab k (aa (u7 n (j.eX,(0,20))) λB=>some B) (some false)) (some false)) λ(F:Bool)=>aa (py n j.start) λk=>aa (py n j.length) λB=>aa (ab F (aa (iq n j.bP) λG=>ab G (ab (aB 0 k) (ab (ai 0 B) (ag (an (k+B)) <|aa (py n M) λO=>some (aB (k+B) O)) (some false)) (some false)) (some false)) (some false)) λ(G:Bool)=>some G
noncomputable def Sc:=ak (qk [.st 33,.st 4] [.bool] [Sg,EE,lr] [] Tryz.func281) HF
noncomputable def HD(n:Nat):(Score×View)→Option Bool:=λ(F,G)=>aa (aa (lu n F) λU=>ab (!U) (some true) (some (!(aj (G.jx.length:Int) (F.bars.length:Int))))) λ(U:Bool)=>ab U (some false) (aa (uZ n (F,G.part)) λZ=>ab (!Z.2) (some false) (aT (aN n (λj:(Int×(Int×(List (Int×Bool))))=>ab (ai j.2.1 (G.jx.length:Int)) (aa (aA G.jx j.2.1) λk=>aa (aA F.bars j.2.1) λad=>aa (zt n (Z.1,(ad,([]:List Written)))) λM=>aa (ab (!(aj k.bG M.bG)) (some true) (ab (!(aj k.key M.key)) (some true) (ab (!(vZ k.length M.length)) (some true) (aa (Hf n (k.notes,())) λY=>some (!Y))))) λ(Y:Bool)=>ab Y (some (.inr (.inr false))) (aT (aN n (λB:(Int×(List (Int×Bool)))=>ab (ai B.1 (k.notes.length:Int)) (aa (aA k.notes B.1) λO=>aa (HF n (O,k.length)) λae=>ab (!ae) (some (.inr (.inr (.inr (.inr false))))) (ag (an (B.1+1)) <|some (.inl ((B.1+1),(bc B.2 O.id true))))) (some (.inr (.inl B.2)))) (0,j.2.2)) λ(B:(List (Int×Bool)))=>ag (an (j.1+(k.notes.length:Int))) <|ag (an (j.2.1+1)) <|some (.inl ((j.1+(k.notes.length:Int)),((j.2.1+1),B))))) (some (.inr (.inl (j.1,j.2.2))))) (0,(0,([]:List (Int×Bool))))) λ(j:(Int×(List (Int×Bool))))=>aa (ab (aB j.1 20000) (some (aj (j.2.length:Int) j.1)) (some false)) λ(k:Bool)=>some k))
noncomputable def Sa:=ak (qk [.st 10,.st 35] [.bool] [mf,yH,ED,RJ,Sc] [] Tryz.func197) HD
noncomputable def E8(n:Nat):(Part×(Int×bT))→Option (bT×Int):=λ(F,M,G)=>aa (aa (aa (uN n F) λj=>ab (!j) (some (false,(0,0))) (aa (pr n F.shift) λk=>aa (uP n (M,k.1)) λB=>aa (ab (!(aj k.2 0)) (some true) (some (!(aj B.2.2 0)))) λ(O:Bool)=>ab O (some (false,(0,0))) (some (true,(B.2.1.steps,B.2.1.fm))))) λ(j:(Bool×(Int×Int)))=>ab (!j.1) (some (true,(j.2.1,j.2.2))) (aa (iq n G) λk=>some ((!k),(j.2.1,j.2.2)))) λ(j:(Bool×(Int×Int)))=>ab j.1 (some ((⟨0,0,0⟩:bT),1)) (aa (pr n (⟨j.2.1,j.2.2⟩:Interval)) λk=>ab (!(aj k.2 0)) (some ((⟨0,0,0⟩:bT),k.2)) (aa (y4 n (G,k.1)) λB=>some (B.1,B.2)))
noncomputable def Pp:=ak (qk [.st 8,tI,.st 7] [.st 7,tI] [yw,uG,yy,lr,Eh] [] Tryz.func198) E8
noncomputable def HC(n:Nat):(Score×View)→Option ((List aV)×Int):=λ(U,G)=>aa (HD n (U,G)) λZ=>ab (!Z) (some (([]:List aV),1)) (aa (uZ n (U,G.part)) λM=>aT (aN n (λk:(Int×(List aV))=>ab (ai k.1 (G.jx.length:Int)) (aT (aa (aA G.jx k.1) λF=>aN n (λB:(Int×(List aV))=>ab (ai B.1 (F.notes.length:Int)) (aa (aA F.notes B.1) λj=>aa (aA U.bars k.1) λY=>aa (E8 n (M.1.part,(Y.key,j.bP))) λO=>ab (!(aj O.2 0)) (some (.inr (.inr (.inr (.inr (([]:List aV),3)))))) (ag (decide ((List.append B.2 ((⟨j.id,M.1.part.id,F.bG,j.ek,j.eX,j.start,j.length,O.1⟩:aV)::([]:List aV))).length*96≤140737488355328∧(List.append B.2 ((⟨j.id,M.1.part.id,F.bG,j.ek,j.eX,j.start,j.length,O.1⟩:aV)::([]:List aV))).length≤9223372036854775807)) <|ag (an (B.1+1)) <|some (.inl ((B.1+1),(List.append B.2 ((⟨j.id,M.1.part.id,F.bG,j.ek,j.eX,j.start,j.length,O.1⟩:aV)::([]:List aV))))))) (some (.inr (.inl B.2)))) (0,k.2)) λ(F:(List aV))=>ag (an (k.1+1)) <|some (.inl ((k.1+1),F))) (some (.inr (.inl k.2)))) (0,([]:List aV))) λ(k:(List aV))=>some (k,0))
noncomputable def R9:=ak (qk [.st 10,.st 35] [.list (.st 9),tI] [Sa,yH,Pp] [] Tryz.func101) HC
noncomputable def FW(n:Nat):(Rat×Rat)→Option Fraction:=λ(j,k)=>ag (an (j.n*k.d)) <|ag (an (k.n*j.d)) <|ag (an ((j.n*k.d)+(k.n*j.d))) <|ag (an (j.d*k.d)) <|some (⟨((j.n*k.d)+(k.n*j.d)),(j.d*k.d)⟩:Fraction)
noncomputable def Ql:=ak (qk [.box (.st 4),.box (.st 4)] [.st 36] [] [] Tryz.func201) FW
noncomputable def FX(n:Nat):Fraction→Option (Rat×Int):=λ(B)=>aa (y9 n B) λj=>aa (aa (FZ n j.n) λk=>ab (ai 1000000000 k) (some true) (some (ai 1000000 j.d))) λ(k:Bool)=>ab k (some ((⟨0,0⟩:Rat),3)) (some ((⟨j.n,j.d⟩:Rat),0))
noncomputable def Qm:=ak (qk [.st 36] [.st 4,tI] [El,Em] [] Tryz.func286) FX
noncomputable def FY(n:Nat):(Rat×(Rat×(Rat×Rat)))→Option (Rat×Int):=λ(G,M,j)=>aa (aa (jC n G) λk=>ab (!k) (some true) (aa (jC n M) λB=>some (!B))) λ(k:Bool)=>ab k (some ((⟨0,0⟩:Rat),1)) (aa (FW n (j.1,j.2)) λB=>aa (FX n B) λF=>some (F.1,F.2))
noncomputable def Qn:=ak (qk [.st 4,.st 4,.ar 201 (.aw (.box (.st 4)) (.box (.st 4)))] [.st 4,tI] [me,Ql,Qm] [] Tryz.func200) FY
noncomputable def y8(n:Nat):(Rat×Rat)→Option (Rat×Int):=λ(j,k)=>aa (FY n (j,(k,(j,k)))) λB=>some (B.1,B.2)
noncomputable def Qj:=ak (qk [.st 4,.st 4] [.st 4,tI] [Qn] [] Tryz.func103) y8
noncomputable def Hj(n:Nat):(c8×Room)→Option ((List cn)×Int):=λ(O,U)=>aa (ze n U.form) λae=>aa (yP n ((⟨0,([]:List dg)⟩:View),U.nI)) λao=>aa (ab (!(aj ae.2 0)) (some true) (ab (!(aj ao.2 0)) (some true) (aa (lu n O.score) λak=>ab (!ak) (some true) (ab (!(aj U.version O.score.version)) (some true) (some (!(aj U.form.bars (O.score.bars.length:Int)))))))) λ(ak:Bool)=>ab ak (some (([]:List cn),1)) (aT (aN n (λG:(Int×(List cn))=>ab (ai G.1 (O.score.parts.length:Int)) (aa (aA O.score.parts G.1) λaf=>aa (HB n (O.score,af.id)) λah=>aa (ab (aj ah.2 0) (aa (aa (yP n (ah.1,U.nI)) λM=>ab (!(aj M.2 0)) (some (G.2,M.2)) (aa (HC n (O.score,M.1)) λZ=>ab (!(aj Z.2 0)) (some (G.2,Z.2)) (aa (aN n (λB:(Int×(List (Int×(List aV))))=>ab (ai B.1 (Z.1.length:Int)) (aa (aA Z.1 B.1) λj=>ag (decide ((List.append (aZ B.2 j.bG ([]:List aV)) (j::([]:List aV))).length*96≤140737488355328∧(List.append (aZ B.2 j.bG ([]:List aV)) (j::([]:List aV))).length≤9223372036854775807)) <|ag (an (B.1+1)) <|some (.inl ((B.1+1),(bc B.2 j.bG (List.append (aZ B.2 j.bG ([]:List aV)) (j::([]:List aV))))))) (some (.inr B.2))) (0,([]:List (Int×(List aV))))) λ(B:(List (Int×(List aV))))=>aT (aN n (λj:(Int×((List cn)×(Int×Int)))=>ab (ai j.1 (ae.1.length:Int)) (aa (aA ae.1 j.1) λal=>aa (aA O.score.bars al.bG) λad=>aT (aN n (λF:(Int×(List cn))=>ab (ai F.1 ((aZ B ad.id ([]:List aV)).length:Int)) (aa (aA (aZ B ad.id ([]:List aV)) F.1) λk=>aa (y8 n ((⟨j.2.2.1,j.2.2.2⟩:Rat),k.start)) λY=>ab (!(aj Y.2 0)) (some (.inr (.inr (.inr (.inr (F.2,Y.2)))))) (ag (decide ((List.append F.2 ((⟨k.part,Y.1,k.length,k.bP⟩:cn)::([]:List cn))).length*64≤140737488355328∧(List.append F.2 ((⟨k.part,Y.1,k.length,k.bP⟩:cn)::([]:List cn))).length≤9223372036854775807)) <|ag (an (F.1+1)) <|some (.inl ((F.1+1),(List.append F.2 ((⟨k.part,Y.1,k.length,k.bP⟩:cn)::([]:List cn))))))) (some (.inr (.inl F.2)))) (0,j.2.1)) λ(F:(List cn))=>aa (y8 n ((⟨j.2.2.1,j.2.2.2⟩:Rat),ad.length)) λk=>ag (an (j.1+1)) <|some (.inl ((j.1+1),(F,(k.1.n,k.1.d))))) (some (.inr (.inl j.2.1)))) (0,(G.2,(0,1)))) λ(j:(List cn))=>some (j,0)))) λ(M:((List cn)×Int))=>some (M.2,M.1)) (some (ah.2,G.2))) λ(M:(Int×(List cn)))=>ab (!(aj M.1 0)) (some (.inr (.inr (([]:List cn),M.1)))) (ag (an (G.1+1)) <|some (.inl ((G.1+1),M.2)))) (some (.inr (.inl G.2)))) (0,([]:List cn))) λ(G:(List cn))=>aa (Hh n (G,())) λaf=>some (af,0))
noncomputable def RK:=ak (qk [.st 17,.st 30] [.list (.st 28),tI] [Ep,OV,mf,R8,R9,Qj] [TT] Tryz.func24) Hj
noncomputable def zh(n:Nat):(fZ×((List Decision)×(Int×Int)))→Option ((List cn)×Int):=λ(j,F,G,M)=>aa (yU n j) λY=>ab (!Y) (some (([]:List cn),1)) (aa (yM n (j.fz,(F,(G,M)))) λk=>ab (!(aj k.2 0)) (some (([]:List cn),k.2)) (aa (Ha n (j.fz,k.1)) λO=>aa (aA j.fz O) λU=>aa (Hj n (U,k.1)) λB=>some (B.1,B.2)))
noncomputable def QD:=ak (qk [.st 23,.list (.st 24),tI,tI] [.list (.st 28),tI] [D7,DV,RF,RK] [] Tryz.func9) zh
noncomputable def y7(n:Nat):((List cY)×(List cY))→Option Bool:=λ(k,B)=>ab (!(aj (k.length:Int) (B.length:Int))) (some false) (aT (aN n (λj:Int=>ab (ai j (k.length:Int)) (aa (aA k j) λF=>aa (aA B j) λG=>ab (!(KB F G)) (some (.inr (.inr false))) (ag (an (j+1)) <|some (.inl (j+1)))) (some (.inr (.inl ())))) 0) λ(j:Unit)=>some true)
noncomputable def Qi:=ak (qk [.list (.st 27),.list (.st 27)] [.bool] [] [] Tryz.func10) y7
noncomputable def y6(n:Nat):((List Int)×(List Int))→Option Bool:=λ(k,B)=>ab (!(aj (k.length:Int) (B.length:Int))) (some false) (aT (aN n (λj:Int=>ab (ai j (k.length:Int)) (aa (aA k j) λF=>aa (aA B j) λG=>ab (!(aj F G)) (some (.inr (.inr false))) (ag (an (j+1)) <|some (.inl (j+1)))) (some (.inr (.inl ())))) 0) λ(j:Unit)=>some true)
noncomputable def Qg:=ak (qk [.list tI,.list tI] [.bool] [] [] Tryz.func11) y6
noncomputable def FV(n:Nat):((List Int)×(List Int))→Option Bool:=λ(k,B)=>ab (!(aj (k.length:Int) (B.length:Int))) (some false) (aT (aN n (λj:Int=>ab (ai j (k.length:Int)) (aa (aA k j) λF=>aa (aA B j) λG=>ab (!(aj F G)) (some (.inr (.inr false))) (ag (an (j+1)) <|some (.inl (j+1)))) (some (.inr (.inl ())))) 0) λ(j:Unit)=>some true)
noncomputable def Qh:=ak (qk [.list tI,.list tI] [.bool] [] [] Tryz.func12) FV
noncomputable def Si(n:Nat):Unit→Option Bool:=λ()=>aa (Fb n ()) λj=>aa (uX n (j,(((⟨1,9,2,0,1,0⟩:Decision)::([]:List Decision)),(((⟨8,(⟨1,1,1⟩:Reader),1,1,([]:List Event)⟩:aJ)::((⟨3,(⟨1,1,1⟩:Reader),2,0,([]:List Event)⟩:aJ)::([]:List aJ))),(5,(⟨(⟨⟨[]⟩⟩:ByteArray),2,0,(⟨0,1⟩:Rat),0⟩:Call)))))) λB=>aa (uX n (j,(((⟨1,9,2,0,1,0⟩:Decision)::([]:List Decision)),(((⟨8,(⟨1,1,1⟩:Reader),1,1,([]:List Event)⟩:aJ)::((⟨3,(⟨1,1,1⟩:Reader),2,0,([]:List Event)⟩:aJ)::([]:List aJ))),(9,(⟨(⟨⟨[]⟩⟩:ByteArray),5,0,(⟨0,1⟩:Rat),0⟩:Call)))))) λF=>aa (zi n (((⟨1,9,2,0,1,0⟩:Decision)::([]:List Decision)),((⟨8,(⟨1,1,1⟩:Reader),1,1,([]:List Event)⟩:aJ)::((⟨3,(⟨1,1,1⟩:Reader),2,0,([]:List Event)⟩:aJ)::([]:List aJ))))) λad=>aa (zh n (j,(((⟨1,9,2,0,1,0⟩:Decision)::([]:List Decision)),(1,8)))) λU=>aa (zh n (j,(((⟨1,9,2,0,1,0⟩:Decision)::([]:List Decision)),(1,9)))) λY=>aa (aA ((⟨8,(⟨1,1,1⟩:Reader),1,1,([]:List Event)⟩:aJ)::((⟨3,(⟨1,1,1⟩:Reader),2,0,([]:List Event)⟩:aJ)::([]:List aJ))) 0) λZ=>ag (decide ((List.append ((⟨8,(⟨1,1,1⟩:Reader),1,1,([]:List Event)⟩:aJ)::((⟨3,(⟨1,1,1⟩:Reader),2,0,([]:List Event)⟩:aJ)::([]:List aJ))) (Z::([]:List aJ))).length*72≤140737488355328∧(List.append ((⟨8,(⟨1,1,1⟩:Reader),1,1,([]:List Event)⟩:aJ)::((⟨3,(⟨1,1,1⟩:Reader),2,0,([]:List Event)⟩:aJ)::([]:List aJ))) (Z::([]:List aJ))).length≤9223372036854775807)) <|aa (uX n (j,(((⟨1,9,2,0,1,0⟩:Decision)::([]:List Decision)),((List.append ((⟨8,(⟨1,1,1⟩:Reader),1,1,([]:List Event)⟩:aJ)::((⟨3,(⟨1,1,1⟩:Reader),2,0,([]:List Event)⟩:aJ)::([]:List aJ))) (Z::([]:List aJ))),(5,(⟨(⟨⟨[]⟩⟩:ByteArray),2,0,(⟨0,1⟩:Rat),0⟩:Call)))))) λae=>aa (zi n (([]:List Decision),((⟨8,(⟨1,1,1⟩:Reader),1,1,([]:List Event)⟩:aJ)::((⟨3,(⟨1,1,1⟩:Reader),2,0,([]:List Event)⟩:aJ)::([]:List aJ))))) λaf=>aa (ab (!(aj B.2.2 0)) (some true) (ab (!(aj F.2.2 0)) (some true) (ab (!(aj ad.2 0)) (some true) (ab (!(aj U.2 0)) (some true) (ab (!(aj Y.2 0)) (some true) (ab (!(aj ae.2.2 1)) (some true) (ab (!(aj af.2 1)) (some true) (ab (!(aj (B.1.length:Int) 2)) (some true) (ab (!(aj (F.1.length:Int) 2)) (some true) (ab (!(aj (U.1.length:Int) 1)) (some true) (some (!(aj (Y.1.length:Int) 1))))))))))))) λ(ah:Bool)=>ab ah (some false) (aa (aa (y7 n (B.1,((⟨(⟨12,1⟩:aY),(⟨0,1⟩:Rat)⟩:cY)::((⟨(⟨0,0⟩:aY),(⟨0,0⟩:Rat)⟩:cY)::([]:List cY))))) λG=>ab G (aa (y6 n (B.2.1,(0::(4::([]:List Int))))) λk=>ab k (aa (y7 n (F.1,((⟨(⟨0,0⟩:aY),(⟨0,0⟩:Rat)⟩:cY)::((⟨(⟨12,1⟩:aY),(⟨0,1⟩:Rat)⟩:cY)::([]:List cY))))) λM=>ab M (aa (y6 n (F.2.1,(4::(0::([]:List Int))))) λO=>some O) (some false)) (some false)) (some false)) λ(G:Bool)=>aa (ab G (aa (FV n (ad.1,(3::([]:List Int)))) λk=>ab k (aa (aA U.1 0) λM=>ab (vZ M.start (⟨4,1⟩:Rat)) (aa (aA Y.1 0) λO=>some (vZ O.start (⟨0,1⟩:Rat))) (some false)) (some false)) (some false)) λ(k:Bool)=>some k)
noncomputable def rf:=ak (yI [] [.bool] [Pv,QC,QF,QD,Qi,Qg,Qh] [] Tryz.func4) Si
end Go.Proofs.YtioaemdeeebgcaaGreatDoor
