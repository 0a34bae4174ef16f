import Derived.Test.YtjigeffmmcmlnaaGreatDoorX1
import Derived.OrdersIn
import Derived.TacticsIn
import Derived.RangeFuncCalls
import Derived.Sort.LoopGhostIn
set_option linter.all false
set_option linter.unnecessarySimpa false
set_option linter.deprecated false
set_option linter.unusedVariables false
set_option linter.unusedSimpArgs false
set_option linter.unusedSectionVars false
namespace Go.an
open Go Go.RowKit
inductive TD where
 | FB
 | tj (k:IntKind)
 | string
 | slice (e:TypeId)
 | struct (fs:List (Nat×TypeId))
 | array (n:Nat) (e:TypeId)
 | map (k v:TypeId)
 deriving DecidableEq,Inhabited
structure TI where
 size:Nat
 bytes:Nat
 zero:List D
 desc:TD
def TD.agg:TD→Bool
 | .struct _=>true
 | .array _ _=>true
 | _=>false
abbrev dh:=TypeId→Option TI
abbrev O5:=FuncId→List D→Option (D×Prop)
structure FR where
 t:T
 l:List AO
 ob:Prop
abbrev DL:=FuncId→List T→List AO→Option FR
def dG (agg:Bool) (cs:List D):D:=if agg then .agg cs else cs.headD .qA
inductive O6 where
 | none
 | new (o:AO)
 | bG (l:List AO)
structure R where
 t:T
 bI:O6
 ob:Prop
def R.ok (t:T):R:=⟨t,.none,True⟩
def R.bad:R:=⟨.undef,.none,False⟩
def GY:Value→D→Bool
 | .bool b,.bool c=>b == c
 | .int k n,.int k' n'=>k == k'&&n == n'
 | .string s,.str s'=>s.data == s'.data
 | .slice none 0 0,.slice _ []=>true
 | .pointer none,.qA=>true
 | .map none,.map [] []=>true
 | .nilFunc,.wm=>true
 | .nilIface,.C6=>true
 | _,_=>false
def iI:Value→T
 | .bool b=> .d (.bool b)
 | .int k n=> .d (.int k n)
 | .string s=> .d (.str s)
 | .slice none 0 0=> .ao 0
 | .pointer none=> .d .qA
 | .map none=> .d (.map [] [])
 | .nilFunc=> .d .wm
 | .nilIface=> .d .C6
 | _=> .undef
def bd [ck] (s:Tm):Operand→T
 | .tmp t=>get s t
 | .const v=>iI v
 | .func f=> .d (.fn f)
 | .global g=>match ck.uK g with | some d=> .fy d.cells.length [d] 0 0 | none=> .undef
structure St where
 t:Tm
 l:List AO
def dA (l:List AO):T→Option (D×List AO)
 | .d x=>some (x,l)
 | .fQ _ x=>some (x,l)
 | .ao s=>some (.slice s [],l)
 | .row id=>match l[id]? with
  | some (.cF _ s els)=>some (.slice s els,l)
  | some (.row e s els)=>some (.slice s els,l.set id (.cF e s els))
  | _=>none
 | .map id=>match l[id]? with
  | some (.oR ks vs)=>some (.map ks vs,l)
  | some (.map ks vs)=>some (.map ks vs,l.set id (.oR ks vs))
  | _=>none
 | _=>none
def dR:List AO→List T→Option (List D×List AO)
 | l,[]=>some ([],l)
 | l,t::ts=>match dA l t with
  | none=>none
  | some (x,l')=>match dR l' ts with
   | none=>none
   | some (xs,uc)=>some (x::xs,uc)
def fg (l:List AO):T→Bool
 | .d _=>true
 | .fQ _ _=>true
 | .ao _=>true
 | .row id=>match l[id]? with | some (.cF ..)=>true | _=>false
 | .map id=>match l[id]? with | some (.oR ..)=>true | _=>false
 | _=>false
def dY (l:List AO) (t:T):Option (D×List AO):=match t with
 | .agg ts=>(match dR l ts with
  | some (ds,l')=>some (.agg ds,l')
  | none=>none)
 | t=>dA l t
def dQ:List AO→List T→Option (List D×List AO)
 | l,[]=>some ([],l)
 | l,t::ts=>match dY l t with
  | none=>none
  | some (x,l')=>match dQ l' ts with
   | none=>none
   | some (xs,uc)=>some (x::xs,uc)
def gK (l:List AO) (t:T):Bool:=match t with
 | .agg ts=>ts.all (fg l)
 | t=>fg l t
def arith (k:IntKind) (n:Int):D×Prop:=
 match k with
 | .i64=>(.int .i64 n,-9223372036854775808≤n∧n≤9223372036854775807)
 | k=>(.int k (k.wrap n),True)
mutual
def pd:D→D→Bool
 | .bool a,.bool b=>a == b
 | .int _ a,.int _ b=>a == b
 | .str a,.str b=>a == b
 | .agg xs,.agg ys=>eO xs ys
 | _,_=>false
def eO:List D→List D→Bool
 | [],[]=>true
 | x::xs,y::ys=>pd x y&&eO xs ys
 | _,_=>false
end
inductive Lf where
 | bool
 | int (k:IntKind)
 | str
 deriving DecidableEq
def iM:Lf→D→Bool
 | .bool,.bool _=>true
 | .int k,.int k' _=>k == k'
 | .str,.str _=>true
 | _,_=>false
def et:List Lf→List D→Bool
 | [],[]=>true
 | x::xs,d::ds=>iM x d&&et xs ds
 | _,_=>false
def iU (xy:TypeId→Option (List Lf)) (op:BinOp) (ty:TypeId):D→D→Option (D×Prop)
 | .int k a,.int k' b=>
  if k≠k' then none else
  match op with
  | .add=>some ((arith k (a+b)).1,(arith k (a+b)).2)
  | .sub=>some ((arith k (a - b)).1,(arith k (a - b)).2)
  | .mul=>some ((arith k (a*b)).1,(arith k (a*b)).2)
  | .quo=>(match k with | .i64=>some (.int .i64 (a.tdiv b),b≠0 ∧ -9223372036854775808≤a.tdiv b∧a.tdiv b≤9223372036854775807) | _=>none)
  | .rem=>some (.int k (a.tmod b),b≠0)
  | .eql=>some (.bool (decide (a=b)),True)
  | .neq=>some (.bool (!decide (a=b)),True)
  | .lss=>some (.bool (decide (a < b)),True)
  | .leq=>some (.bool (decide (a≤b)),True)
  | .gtr=>some (.bool (decide (b < a)),True)
  | .geq=>some (.bool (decide (b≤a)),True)
  | _=>none
 | .bool a,.bool b=>match op with
  | .eql=>if xy ty=some [.bool] then some (.bool (a == b),True) else none
  | .neq=>if xy ty=some [.bool] then some (.bool (!(a == b)),True) else none
  | _=>none
 | .str a,.str b=>match op with
  | .eql=>some (.bool (a == b),True)
  | .neq=>some (.bool (!(a == b)),True)
  | .add=>some (.str (a++b),(a.size:Int)+(b.size:Int)≤9223372036854775807)
  | _=>none
 | .agg xs,.agg ys=>match op with
  | .eql=>(match xy ty with | some ls=>if ls=[.bool] then none else some (.bool (eO xs ys),et ls xs=true∧et ls ys=true) | none=>none)
  | .neq=>(match xy ty with | some ls=>if ls=[.bool] then none else some (.bool (!(eO xs ys)),et ls xs=true∧et ls ys=true) | none=>none)
  | _=>none
 | _,_=>none
def jk (op:UnOp):D→Option (D×Prop)
 | .bool b=>match op with | .not=>some (.bool (!b),True) | _=>none
 | .int k n=>match op with | .neg=>some ((arith k (0 - n)).1,(arith k (0 - n)).2) | _=>none
 | _=>none
def gI:Option (D×Prop)→R
 | some (x,ob)=>⟨.d x,.none,ob⟩
 | none=> .bad
def bf:T→List T
 | .d x=>x.cells.map .d
 | .agg ts=>ts
 | t=>[t]
def T.eT:T→Bool
 | .d x=>x.one
 | .bn _=>false
 | .cond _ _=>false
 | .agg _=>false
 | .undef=>false
 | _=>true
def fo:T→Option D
 | .d x=>some x
 | .ao s=>some (.slice s [])
 | _=>none
def fV:T→Option D
 | .d x=>some x
 | _=>none
def gH (agg:Bool) (cs:List T):T:=
 if agg then(match cs.mapM fV with | some ds=> .d (.agg ds) | none=> .agg cs) else cs.headD .undef
def gb:D→T
 | .slice s []=> .ao s
 | x=> .d x
def unbox:T→T
 | .d (.box d)=> .fy d.cells.length [d] 0 0
 | t=>t
def iW (g:FuncId) (ts:List T):T:=match ts.mapM fV with
 | some ds=> .d (.aR g ds)
 | none=> .aR g ts
def setAt {α:Type} (l:List α) (off:Nat) (xs:List α):List α:=l.take off++xs++l.drop (off+xs.length)
def bw (E:dh) (t:TypeId):Nat:=((E t).map TI.size).getD 0
def gC (place:Nat→Option (Nat×Nat)) (cells:List T):List (Nat×T)→Option (List T)
 | []=>some cells
 | (i,t)::rest=>match place i with
  | some (off,size)=>if(bf t).length=size∧off+size≤cells.length∧(bf t).all T.eT=true then gC place (setAt cells off (bf t)) rest else none
  | none=>none
def iN (E:dh) (fs:List (Nat×TypeId)) (i:Nat):Option (Nat×Nat):=(fs[i]?).map fun f=>(f.1,bw E f.2)
def jU (els:List D) (k:Nat):D:=(els[k]?).getD .qA
def jf:D→Bool
 | .agg _=>true
 | _=>false
def fC (i:TI) (size:Nat) (els:List D) (k off:Nat):R:=
 if size=i.size∧off=0 then⟨.d (jU els k),.none,k < els.length∧jf (jU els k)=i.desc.agg⟩
 else⟨.d (dG i.desc.agg (((jU els k).cells.drop off).take i.size)),.none,k < els.length∧off+i.size≤size⟩
def eI (E:dh) (ty:TypeId) (l:List AO):T→R
 | .ptr id off=>match E ty,l[id]? with
  | some i,some (.var _ cs)=>if off+i.size≤cs.length then .ok (gH i.desc.agg ((cs.drop off).take i.size)) else .bad
  | _,_=> .bad
 | .fy size els k off=>match E ty with
  | some i=>fC i size els k off
  | none=> .bad
 | .dH id k off=>match E ty,l[id]? with
  | some i,some (.row _ size els) | some i,some (.cF _ size els)=>fC i size els k off
  | _,_=> .bad
 | _=> .bad
def jC (l:List AO):T→T→R
 | .ptr id off,x=>match l[id]? with
  | some (.var ty cs)=>if off+(bf x).length≤cs.length then⟨.undef,.bG (l.set id (.var ty (setAt cs off (bf x)))),((bf x).all T.eT)=true⟩ else .bad
  | _=> .bad
 | .dH id k 0,.d x=>match l[id]? with
  | some (.row e size els)=>⟨.undef,.bG (l.set id (.row e size (els.set k x))),x.cells.length=size∧x.cells.all D.one=true∧k < els.length⟩
  | _=> .bad
 | .dH id k (off+1),.d x=>match l[id]? with
  | some (.row e size els)=>(match jU els k with
   | .agg cs=>⟨.undef,.bG (l.set id (.row e size (els.set k (.agg (setAt cs (off+1) x.cells))))),off+1+x.cells.length≤size∧x.cells.all D.one=true∧k < els.length⟩
   | _=> .bad)
  | _=> .bad
 | _,_=> .bad
def fa (E:dh) (s:TypeId) (f:Nat):T→R
 | .ptr id off=>match E s with | some ⟨_,_,_,.struct fs⟩=>(match fs[f]? with | some p=>if 0 < bw E p.2 then .ok (.ptr id (off+p.1)) else .bad | none=> .bad) | _=> .bad
 | .fy size els k off=>match E s with | some ⟨_,_,_,.struct fs⟩=>(match fs[f]? with | some p=>if 0 < bw E p.2 then .ok (.fy size els k (off+p.1)) else .bad | none=> .bad) | _=> .bad
 | .dH id k off=>match E s with | some ⟨_,_,_,.struct fs⟩=>(match fs[f]? with | some p=>if 0 < bw E p.2 then .ok (.dH id k (off+p.1)) else .bad | none=> .bad) | _=> .bad
 | _=> .bad
def gN (E:dh) (s:TypeId) (f:Nat):T→R
 | .d (
    .agg cs)=>match E s with
  | some ⟨_,_,_,.struct fs⟩=>(match fs[f]? with
   | some p=>(match E p.2 with
    | some i=>if p.1+i.size≤cs.length∧0 < i.size then .ok (.d (dG i.desc.agg ((cs.drop p.1).take i.size))) else .bad
    | none=> .bad)
   | none=> .bad)
  | _=> .bad
 | _=> .bad
def cX:T→Option (IntKind×Int)
 | .d (.int k n)=>some (k,n)
 | _=>none
def iy (E:dh) (t:TypeId) (l:List AO) (x i:T):R:=
 match E t,cX i with
 | some ⟨_,_,_,.slice e⟩,some (_,n)=>
  (match x with
  | .d (.slice size els)=>if size=bw E e∧0 < size then⟨.fy size els n.toNat 0,.none,0≤n∧n < els.length⟩ else .bad
  | .row id=>(match l[id]? with
   | some (.row _ size els) | some (.cF _ size els)=>if size=bw E e∧0 < size then⟨.dH id n.toNat 0,.none,0≤n∧n < els.length⟩ else .bad
   | _=> .bad)
  | _=> .bad)
 | some ⟨_,_,_,.array len e⟩,some (_,n)=>
  (match x with
  | .fy size els k off=>if(E e).isSome=true then⟨.fy size els k (off+n.toNat*bw E e),.none,0≤n∧n < len⟩ else .bad
  | _=> .bad)
 | _,_=> .bad
def mapOf (l:List AO):T→Option (List D×List D)
 | .d (.map ks vs)=>some (ks,vs)
 | .map id=>match l[id]? with
  | some (.map ks vs) | some (.oR ks vs)=>some (ks,vs)
  | _=>none
 | _=>none
def iA (E:dh) (t:TypeId) (l:List AO) (x:T):R:=
 match E t with
 | some ⟨_,_,_,.string⟩=>(match x with | .d (.str s)=> .ok (.d (.int .i64 s.size)) | _=> .bad)
 | some ⟨_,_,_,.slice _⟩=>(match x with
  | .d (.slice _ els)=> .ok (.d (.int .i64 els.length))
  | .ao _=> .ok (.d (.int .i64 0))
  | .row id=>(match l[id]? with
   | some (.row _ _ els) | some (.cF _ _ els)=> .ok (.d (.int .i64 els.length))
   | _=> .bad)
  | _=> .bad)
 | some ⟨_,_,_,.map _ _⟩=>(match mapOf l x with | some (ks,_)=> .ok (.d (.int .i64 ks.length)) | none=> .bad)
 | _=> .bad
def gv (x:T) (lo hi:Option T):R:=
 match x with
 | .d (.slice size els)=>
  (match lo,hi with
  | none,none=> .ok x
  | some a,none=>(match cX a with | some (_,n)=>⟨.d (.slice size (els.drop n.toNat)),.none,0≤n∧n≤els.length⟩ | none=> .bad)
  | none,some b=>(match cX b with | some (_,n)=>⟨.d (.slice size (els.take n.toNat)),.none,0≤n∧n≤els.length⟩ | none=> .bad)
  | some a,some b=>(match cX a,cX b with
   | some (_,n),some (_,h)=>⟨.d (.slice size ((els.take h.toNat).drop n.toNat)),.none,0≤n∧n≤h∧h≤els.length⟩
   | _,_=> .bad))
 | _=> .bad
def fE (E:dh) (e:TypeId) (l:List AO) (id:Nat) (lo hi:Option T):R:=
 match l[id]? with
 | some (.row _ size els)=>if size=bw E e∧(E e).isSome=true then
   (match lo,hi with
   | some a,none=>(match cX a with | some (_,n)=>⟨.sub id n.toNat els.length,.bG l,0≤n∧n≤els.length⟩ | none=> .bad)
   | none,some b=>(match cX b with | some (_,n)=>⟨.sub id 0 n.toNat,.bG l,0≤n∧n≤els.length⟩ | none=> .bad)
   | _,_=> .bad) else .bad
 | _=> .bad
def eJ (E:dh) (e:TypeId) (l:List AO) (id:Nat) (lo hi:Option T) (mx:T):R:=
 match l[id]?,lo,hi with
 | some (.row _ size els),some a,some b=>(match cX a,cX b,cX mx with
  | some (_,n),some (_,h),some (_,q)=>if size=bw E e∧(E e).isSome=true then⟨.undef,.bG l,0≤n∧n≤h∧h≤q∧q≤els.length⟩ else .bad
  | _,_,_=> .bad)
 | _,_,_=> .bad
def gB (E:dh) (t:TypeId) (l:List AO) (x:T):R:=
 match E t,x with
 | some ⟨_,_,_,.slice e⟩,.sub id lo hi=>(match E e,l[id]? with
  | some i,some (.row e' size els)=>if size=i.size∧hi=els.length∧0 < size then⟨.d (.bn []),.bG (l.set id (.row e' size (els.take lo++List.replicate (hi - lo) (dG i.desc.agg i.zero)))),True⟩ else .bad
  | _,_=> .bad)
 | _,_=> .bad
def gG (E:dh) (t:TypeId) (l:List AO) (nid:Nat) (a b:T):R:=
 match E t,cX a,cX b with
 | some ⟨_,_,_,.slice e⟩,some (_,n),some (_,c)=>(match E e with
  | some i=>if 0 < i.size then⟨.row nid,.bG (l++[.row e i.size (List.replicate n.toNat (dG i.desc.agg i.zero))]),0≤n∧c=n∧n*i.bytes≤140737488355328∧n≤9223372036854775807⟩ else .bad
  | none=> .bad)
 | _,_,_=> .bad
def fU (E:dh) (t:TypeId) (l:List AO) (nid:Nat) (s x:T):R:=
 match E t with
 | some ⟨_,_,_,.slice e⟩=>(match E e with
  | some i=>
   (match dY l x with
   | some (.slice sx new,l1)=>if(sx=i.size∨new.isEmpty)∧0 < i.size then
     (match s with
     | .ao _=>⟨.row nid,.bG (l1++[.row e i.size new]),new.length*i.bytes≤140737488355328∧new.length≤9223372036854775807⟩
     | .row id=>(match l1[id]? with
      | some (.row e' size els)=>if e'=e∧size=i.size∧nid=l1.length then⟨.row nid,.bG (l1.set id .dead++[.row e size (els++new)]),(els.length+new.length)*i.bytes≤140737488355328∧els.length+new.length≤9223372036854775807⟩ else .bad
      | _=> .bad)
     | .fQ id _=>(match l1[id]? with
      | some (.cF e' size els)=>if e'=e∧size=i.size∧nid=l1.length then⟨.fQ nid (.slice size (els++new)),.bG (l1.set id .dead++[.cF e size (els++new)]),(els.length+new.length)*i.bytes≤140737488355328∧els.length+new.length≤9223372036854775807⟩ else .bad
      | _=> .bad)
     | _=> .bad) else .bad
   | _=> .bad)
  | none=> .bad)
 | _=> .bad
def iH (C:O5) (f:FuncId) (l:List AO) (ts:List T):R:=
 match dQ l ts with
 | some (ds,l')=>(match C f ds with
  | some (x,ob)=>⟨.d x,if ts.all (gK l) then .none else .bG l',ob⟩
  | none=> .bad)
 | none=> .bad
def gW (c a b:T):R:=
 match c with
 | .d (.bool c)=>
  let f:Bool→T→Option (Bool×Prop):=fun want t=>match t with
   | .d (.bool x)=>some (x,True)
   | .cond pc (.d (.bool x))=>some (x,c=want→holds pc)
   | _=>none
  (match f true a,f false b with
  | some (x,p),some (y,q)=>⟨.d (.bool (if c then x else y)),.none,p∧q⟩
  | some (x,p),none=>⟨.d (.bool x),.none,c=true∧p⟩
  | none,some (y,q)=>⟨.d (.bool y),.none,c=false∧q⟩
  | none,none=> .bad)
 | _=> .bad
def jV (E:dh) (t:TypeId):Nat:=match E t with | some ⟨_,_,_,.slice e⟩=>bw E e | _=>0
def typed (E:dh) (t:TypeId):T→T
 | .ao _=> .ao (jV E t)
 | x=>x
def fm (E:dh):List TypeId→List T→List T
 | t::ts,x::xs=>typed E t x::fm E ts xs
 | _,xs=>xs
structure Env where
 E:dh
 C:O5
 xy:TypeId→Option (List Lf)
 F:DL:=fun _ _ _=>none
 P:Program
 inl:FuncId→Bool:=fun _=>false
 sub:Bool:=false
def il (V:Env) (g:FuncId) (l:List AO) (ts:List T):R:=
 match V.F g ts l with
 | some ⟨t,l',ob⟩=>⟨t,.bG l',ob⟩
 | none=>iH V.C g l ts
def fe (n:Int):List D→Nat→Option Nat
 | [],_=>none
 | .int _ a::r,i=>if n=a then some i else fe n r (i+1)
 | _::_,_=>none
def Bs (k:IntKind) (ks:List D):Bool:=ks.all fun d=>match d with | .int k' _=>k' == k | _=>false
def iD (E:dh) (t:TypeId):Option (IntKind×TI):=match E t with
 | some ⟨_,_,_,.map kt e⟩=>match E kt,E e with
  | some ⟨_,_,_,.tj kk⟩,some i=>some (kk,i)
  | _,_=>none
 | _=>none
def ff (E:dh) (t:TypeId) (l:List AO) (x k:T) (ok:Bool):R:=
 match iD E t,mapOf l x,cX k with
 | some (kk,i),some (ks,vs),some (zU,n)=>
  if kk=zU then
   match fe n ks 0 with
   | some j=>⟨if ok then .d (.bn [jU vs j,.bool true]) else .d (jU vs j),.none,Bs kk ks=true⟩
   | none=>⟨if ok then .d (.bn [dG i.desc.agg i.zero,.bool false]) else .d (dG i.desc.agg i.zero),.none,Bs kk ks=true⟩
  else .bad
 | _,_,_=> .bad
def gn (E:dh) (t:TypeId) (l:List AO) (x k v:T):R:=
 match iD E t,x,cX k,fo v with
 | some (kk,_),.map id,some (zU,n),some d=>
  if kk=zU then
   match l[id]? with
   | some (.map ks vs)=>⟨.undef,.bG (l.set id (match fe n ks 0 with | some j=> .map ks (vs.set j d) | none=> .map (ks++[.int kk n]) (vs++[d]))),Bs kk ks=true⟩
   | _=> .bad
  else .bad
 | _,_,_,_=> .bad
def gT (E:dh) (t:TypeId) (l:List AO) (x k:T):R:=
 match iD E t,x,cX k with
 | some (kk,_),.map id,some (zU,n)=>
  if kk=zU then
   match l[id]? with
   | some (.map ks vs)=>⟨.d (.bn []),.bG (l.set id (match fe n ks 0 with | some j=> .map (ks.eraseIdx j) (vs.eraseIdx j) | none=> .map ks vs)),Bs kk ks=true⟩
   | _=> .bad
  else .bad
 | _,_,_=> .bad
def U2 (s:ByteArray) (n:Nat):Int:=((s[n]?).getD 0).toNat
def iz (E:dh) (t:TypeId) (x i:T):R:=
 match E t,x,cX i with
 | some ⟨_,_,_,.string⟩,.d (.str s),some (_,n)=>⟨.d (.int .u8 (U2 s n.toNat)),.none,0≤n∧n < s.size⟩
 | _,_,_=> .bad
def ak3:Value→D
 | .int k n=> .int k n
 | _=> .qA
def Og (s:ByteArray):List D:=(Conv.runesFrom s s.size 0 #[]).toList.map ak3
def iq (E:dh) (src t:TypeId) (x:T):R:=
 match E src,E t,x with
 | some ⟨_,_,_,.tj _⟩,some ⟨_,_,_,.tj k⟩,.d (.int _ n)=> .ok (.d (.int k (k.wrap n)))
 | some ⟨_,_,_,.string⟩,some ⟨_,_,_,.slice e⟩,.d (.str s)=>(match E e with
  | some ⟨1,_,_,.tj .i32⟩=>⟨.d (.slice 1 (Og s)),.none,s.size≤16777216⟩
  | _=> .bad)
 | _,_,_=> .bad
def BM (E:dh) (t:TypeId) (l:List AO) (nid:Nat) (x:T):R:=match E t,x with
 | some ⟨_,_,_,.map _ _⟩,.map id=>(match dY l (.map id) with
  | some (.map ks vs,l')=>⟨.ptr nid 0,.bG (l'++[.iter ks vs []]),True⟩
  | _=> .bad)
 | some ⟨_,_,_,.map _ _⟩,.d (.map ks vs)=>⟨.ptr nid 0,.bG (l++[.iter ks vs []]),True⟩
 | _,_=> .bad
def AI (l:List AO) (x:T):R:=match x with
 | .ptr id 0=>(match l[id]? with
  | some (.iter ks vs done)=>(match done.getLast? with
   | some i=>(match ks[i]?,vs[i]? with | some k,some v=> .ok (.d (.bn [k,v])) | _,_=> .bad)
   | none=> .bad)
  | _=> .bad)
 | _=> .bad
def Im:D→D→Bool
 | .agg a,.agg b=>eO a b
 | _,_=>false
def yN (k:D):List D→Nat→Option Nat
 | [],_=>none
 | a::r,i=>if Im k a=true then some i else yN k r (i+1)
def Ia (kk:IntKind):D→Bool
 | .int k' _=>k' == kk
 | _=>false
def Br (n:Nat) (kk:IntKind):D→Bool
 | .agg cs=>decide (cs.length=n)&&cs.all (Ia kk)
 | _=>false
def Io (n:Nat) (kk:IntKind) (ks:List D):Bool:=ks.all (Br n kk)
def ib (E:dh) (t:TypeId):Option (Nat×IntKind×TI):=match E t with
 | some ⟨_,_,_,.map kt e⟩=>match E kt,E e with
  | some ⟨_,_,_,.array n ie⟩,some i=>(match E ie with | some ⟨_,_,_,.tj kk⟩=>some (n,kk,i) | _=>none)
  | _,_=>none
 | _=>none
def iB (E:dh) (t:TypeId) (l:List AO) (x k:T) (ok:Bool):R:=
 match ib E t,mapOf l x,k with
 | some (n,kk,i),some (ks,vs),.d kd=>
  if Br n kk kd=true then
   match yN kd ks 0 with
   | some j=>⟨if ok then .d (.bn [jU vs j,.bool true]) else .d (jU vs j),.none,Io n kk ks=true⟩
   | none=>⟨if ok then .d (.bn [dG i.desc.agg i.zero,.bool false]) else .d (dG i.desc.agg i.zero),.none,Io n kk ks=true⟩
  else .bad
 | _,_,_=> .bad
def gm (E:dh) (t:TypeId) (l:List AO) (x k v:T):R:=
 match ib E t,x,k,fo v with
 | some (n,kk,_),.map id,.d kd,some d=>
  if Br n kk kd=true then
   match l[id]? with
   | some (.map ks vs)=>⟨.undef,.bG (l.set id (match yN kd ks 0 with | some j=> .map ks (vs.set j d) | none=> .map (ks++[kd]) (vs++[d]))),Io n kk ks=true⟩
   | _=> .bad
  else .bad
 | _,_,_,_=> .bad
def iO (E:dh) (t:TypeId) (l:List AO) (x k v:T):R:=if(ib E t).isSome=true then gm E t l x k v else gn E t l x k v
def iC (E:dh) (t:TypeId) (l:List AO) (x k:T) (ok:Bool):R:=if(ib E t).isSome=true then iB E t l x k ok else ff E t l x k ok
def gX (E:dh) (n:Nat) (e:TypeId) (cs:List D):R:=
 if bw E e=1∧(E e).isSome=true∧cs.length=n∧n≤16777216∧cs.all D.one=true then .ok (.d (.slice 1 cs)) else .bad
def evalOp (
      V:Env) (ρ:Operand→T) (l:List AO) (nid:Nat) (o:Oper):R:=
 match o.op with
 | .move x | .assign x=> .ok (typed V.E o.type (ρ x))
 | .pick c a b=>gW (ρ c) (ρ a) (ρ b)
 | .box e x=>⟨.ptr nid 0,.new (.var e (bf (ρ x))),((bf (ρ x)).all T.eT)=true⟩
 | .alloc e=>(match V.E e with | some i=>⟨.ptr nid 0,.new (.var e (i.zero.map gb)),True⟩ | none=> .bad)
 | .load t a=>eI V.E t l (unbox (ρ a))
 | .store t a x=>if(bf (ρ x)).length=bw V.E t∧0 < bw V.E t then jC l (ρ a) (ρ x) else .bad
 | .fieldAddr s x f=>fa V.E s f (unbox (ρ x))
 | .field s x f=>gN V.E s f (ρ x)
 | .binOp op ty x y _=>(match ρ x,ρ y with | .d a,.d b=>gI (iU V.xy op ty a b) | _,_=> .bad)
 | .unOp op _ x=>(match ρ x with | .d a=>gI (jk op a) | _=> .bad)
 | .indexAddr t x i=>iy V.E t l (unbox (ρ x)) (ρ i)
 | .slice t x lo hi none=>(match V.E t,ρ x with
  | some ⟨_,_,_,.slice e⟩,.d (.slice size els)=>if size=bw V.E e∧(V.E e).isSome=true then gv (.d (.slice size els)) (lo.map ρ) (hi.map ρ) else .bad
  | some ⟨_,_,_,.slice e⟩,.row id=>if V.sub=true then fE V.E e l id (lo.map ρ) (hi.map ρ) else(match dY l (.row id) with
   | some (.slice size els,l')=>if size=bw V.E e∧(V.E e).isSome=true then⟨(gv (.d (.slice size els)) (lo.map ρ) (hi.map ρ)).t,.bG l',(gv (.d (.slice size els)) (lo.map ρ) (hi.map ρ)).ob⟩ else .bad
   | _=> .bad)
  | some ⟨_,_,_,.array n e⟩,.d (.box (.agg cs))=>if lo.isNone=true∧hi.isNone=true then gX V.E n e cs else .bad
  | _,_=> .bad)
 | .slice t x lo hi (some mx)=>(match V.E t,ρ x with
  | some ⟨_,_,_,.slice e⟩,.row id=>eJ V.E e l id (lo.map ρ) (hi.map ρ) (ρ mx)
  | _,_=> .bad)
 | .build t parts=>(match V.E t with
  | some ⟨_,_,z,.struct fs⟩=>if fs.all (fun f=>(V.E f.2).isSome)=true then(match gC (iN V.E fs) (z.map gb) (parts.toList.map fun p=>(p.1,ρ p.2)) with | some cs=> .ok (gH true cs) | none=> .bad) else .bad
  | some ⟨_,_,z,.array _ e⟩=>if(V.E e).isSome=true then(match gC (fun i=>some (i*bw V.E e,bw V.E e)) (z.map gb) (parts.toList.map fun p=>(p.1,ρ p.2)) with | some cs=> .ok (gH true cs) | none=> .bad) else .bad
  | _=> .bad)
 | .buildSlice t len parts=>(match V.E t with
  | some ⟨_,_,_,.slice e⟩=>
   if(
     V.E e).isSome=true∧0 < bw V.E e then
    (if len=0 then⟨.row nid,.bG (l++[.row e (bw V.E e) []]),parts.toList.isEmpty=true⟩
    else(match parts.toList.mapM (fun p=>fo (ρ p.2)) with
     | some ds=>if parts.toList.map (·.1)=List.range len∧len*bw V.E e≤16777216∧ds.all (fun d=>d.cells.length == bw V.E e&&d.cells.all D.one)=true then .ok (.d (.slice (bw V.E e) ds)) else .bad
     | none=>(match dQ l (parts.toList.map fun p=>ρ p.2) with
      | some (ds,l')=>if parts.toList.map (·.1)=List.range len∧len*bw V.E e≤16777216∧ds.all (fun d=>d.cells.length == bw V.E e&&d.cells.all D.one)=true then⟨.d (.slice (bw V.E e) ds),.bG l',True⟩ else .bad
      | none=> .bad)))
   else .bad
  | _=> .bad)
 | .extract x i=>(match ρ x with
  | .d (.bn ds)=>(match ds[i]? with | some d=> .ok (.d d) | none=> .bad)
  | .bn ts=>(match ts[i]? with | some t=> .ok t | none=> .bad)
  | _=> .bad)
 | .call c=>(match c.callee with
  | .value f=>(match ρ f with
   | .d (.fn g)=>il V g l (fm V.E c.argTypes.toList (c.args.toList.map ρ))
   | .d (.aR g ds)=>il V g l (fm V.E c.argTypes.toList (c.args.toList.map ρ)++ds.map .d)
   | _=> .bad)
  | .builtin .len=>(match c.args.toList,c.argTypes.toList with | [x],[t]=>iA V.E t l (ρ x) | _,_=> .bad)
  | .builtin .append=>(match c.args.toList,c.argTypes.toList with
   | [s,x],[t,t']=>if t=t' then fU V.E t l nid (ρ s) (ρ x) else .bad
   | _,_=> .bad)
  | .builtin .clear=>(match c.args.toList,c.argTypes.toList with | [x],[t]=>gB V.E t l (ρ x) | _,_=> .bad)
  | .builtin .delete=>(match c.args.toList,c.argTypes.toList with | [x,k],[t,_]=>gT V.E t l (ρ x) (ρ k) | _,_=> .bad)
  | .builtin .max=>(match c.args.toList.map ρ with | [.d (.int k a),.d (.int k' b)]=>if k=k' then .ok (.d (.int k (max a b))) else .bad | _=> .bad)
  | .builtin .min=>(match c.args.toList.map ρ with | [.d (.int k a),.d (.int k' b)]=>if k=k' then .ok (.d (.int k (min a b))) else .bad | _=> .bad)
  | _=> .bad)
 | .makeMap _ none=>⟨.map nid,.bG (l++[.map [] []]),True⟩
 | .mapUpdate t m k x | .insert t m k x=>iO V.E t l (ρ m) (ρ k) (ρ x)
 | .lookup t x k ok=>iC V.E t l (ρ x) (ρ k) ok
 | .index t x i=>iz V.E t (ρ x) (ρ i)
 | .convert src t x=>iq V.E src t (ρ x)
 | .makeFunc (.func g) first caps=>if first.isEmpty=true then .ok (iW g (caps.toList.map ρ)) else .bad
 | .range t x=>BM V.E t l nid (ρ x)
 | .entry x=>AI l (ρ x)
 | .makeSlice t a b=>gG V.E t l nid (ρ a) (ρ b)
 | _=> .bad
end Go.an
namespace Go.an
open Go Go.RowKit
variable [ck]
theorem S2 {B:Nat} {w w':World} {e:TypeId} {size n:Nat} {v:Value} {xs:List Value} (h:w.ownsRow B e size v n xs) (hw:∀ b,own v=some b→w'.heap[b]?=w.heap[b]?):w'.ownsRow B e size v n xs:=by
 refine⟨h.1,?_⟩
 rcases h.2 with hn | ⟨g,cap,cur,rfl,hb,hg,rest⟩
 ·exact .inl hn
 exact .inr ⟨g,cap,cur,rfl,hb,(hw g rfl).trans hg,rest⟩
theorem eD.SI {w:World} {I:aC} {B:Nat} {e:TypeId} {size n:Nat} {v:Value} {xs:List Value} {b:Nat} (h:eD w I) (k:w.ownsRow B e size v n xs) (hb:own v=some b):¬ I.df b:=by
 rcases k.2 with ⟨rfl,_⟩ | ⟨g,cap,cur,rfl,_,hg,_⟩
 ·cases hb
 simp only[own,Option.some.injEq] at hb
 subst hb
 exact h.yO hg (by simp)
theorem rI.pR {B:Nat} {w w':World} {I J:aC} {m m':Nat→Value} {l l':List AO} {v:Value} {o:AO} (hle:Le I m l J m' l') (hw:∀ b,own v=some b→w'.heap[b]?=w.heap[b]?)
  (hI:∀ b,own v=some b→J.cell b=I.cell b∧J.mp b=I.mp b) (h:rI B w I m l v o):rI B w' J m' l' v o:=by
 cases o with
 | dead=>trivial
 | var ty cs=>
  obtain⟨b,vs,rfl,h1,h2,h3,h4,h5⟩:=h
  refine⟨b,vs,rfl,h1,(hw b rfl).trans h2,h3,fun i x t hx ht=>⟨(h4 i x t hx ht).1.mono hle,(h4 i x t hx ht).2⟩,?_⟩
  obtain⟨e1,e2⟩:=hI b rfl
  exact⟨fun o=>by rw[e1];exact h5.1 o,e2.trans h5.2⟩
 | row e size els=>
  obtain⟨xs,h1,h2,h3,h4⟩:=h
  refine⟨xs,S2 h1 hw,h2,fun j x y hx hy=>(h3 j x y hx hy).mono hle.eR,fun b hb=>?_⟩
  obtain⟨e1,e2⟩:=hI b hb
  exact⟨fun o=>by rw[e1];exact(h4 b hb).1 o,e2.trans (h4 b hb).2⟩
 | cF e size els=>
  obtain⟨xs,h1,h2,h3,h4⟩:=h
  refine⟨xs,S2 h1 hw,h2,fun j x y hx hy=>(h3 j x y hx hy).mono hle.eR,fun b hb=>?_⟩
  obtain⟨e1,e2⟩:=hI b hb
  obtain⟨k1,k2,k3⟩:=h4 b hb
  exact⟨e2.trans k1,fun j x hx=>by rw[e1];exact k2 j x hx,fun j hj=>by rw[e1];exact k3 j hj⟩
 | map ks vs=>
  obtain⟨b,es,rfl,h1,h2,h3,h4,h5,h6,h7⟩:=h
  obtain⟨e1,e2⟩:=hI b rfl
  exact⟨b,es,rfl,h1,iT.to (hw b rfl) h2,h3,h4,fun i e d he hd=>(h5 i e d he hd).mono hle.eR,fun i e d he hd=>(h6 i e d he hd).mono hle.eR,fun o=>by rw[e1];exact h7.1 o,e2.trans h7.2⟩
 | oR ks vs=>
  obtain⟨b,es,rfl,h1,h2,h3,h4,h5,h6,h7,h8⟩:=h
  obtain⟨e1,e2⟩:=hI b rfl
  exact⟨b,es,rfl,h1,iT.to (hw b rfl) h2,h3,h4,fun i e d he hd=>(h5 i e d he hd).mono hle.eR,fun i e d he hd=>(h6 i e d he hd).mono hle.eR,fun o=>by rw[e1];exact h7 o,e2.trans h8⟩
 | iter ks vs done=>
  obtain⟨b,mb,es,seen,rfl,h1,h2,h3,h4,h5,h6,h7,h8,h9⟩:=h
  obtain⟨e1,e2⟩:=hI b rfl
  exact⟨b,mb,es,seen,rfl,h1,(hw b rfl).trans h2,⟨fun r hr=>hle.eR.mp _ _ (h3.1 r hr),h3.2⟩,h4,h5,fun i e d he hd=>(h6 i e d he hd).mono hle.eR,fun i e d he hd=>(h7 i e d he hd).mono hle.eR,h8,fun o=>by rw[e1];exact h9.1 o,e2.trans h9.2⟩
 | frame base vals t=>exact⟨h.1,Nat.le_trans h.2.1 hle.len,fun k=>(h.2.2 k).mono (hle.take base)⟩
 | loop base n ps cQ body t st ed=>
  obtain⟨b,r,rfl,h1,h2,h3,h4,h5,h6⟩:=h
  obtain⟨e1,e2⟩:=hI b rfl
  exact⟨b,r,rfl,h1,(hw b rfl).trans h2,h3,Nat.le_trans h4 hle.len,fun k=>(h5 k).mono (hle.take base),fun o=>by rw[e1];exact h6.1 o,e2.trans h6.2⟩
theorem rI.lt {B:Nat} {w:World} {I:aC} {m:Nat→Value} {l:List AO} {v:Value} {o:AO} (h:rI B w I m l v o) (ho:o ≠ .dead) {b:Nat} (hb:own v=some b):b < w.heap.size∧B≤b:=by
 cases o with
 | dead=>exact absurd rfl ho
 | var ty cs=>
  obtain⟨b',vs,rfl,h1,h2,_⟩:=h
  simp only[own,Option.some.injEq] at hb
  subst hb
  exact⟨(Array.getElem?_eq_some_iff.1 h2).1,h1⟩
 | row e size els=>
  obtain⟨xs,h1,_⟩:=h
  rcases h1.2 with ⟨rfl,_⟩ | ⟨g,cap,cur,rfl,bP,hg,_⟩
  ·simp[own] at hb
  simp only[own,Option.some.injEq] at hb
  subst hb
  exact⟨(Array.getElem?_eq_some_iff.1 hg).1,bP⟩
 | cF e size els=>
  obtain⟨xs,h1,_⟩:=h
  rcases h1.2 with ⟨rfl,_⟩ | ⟨g,cap,cur,rfl,bP,hg,_⟩
  ·simp[own] at hb
  simp only[own,Option.some.injEq] at hb
  subst hb
  exact⟨(Array.getElem?_eq_some_iff.1 hg).1,bP⟩
 | map ks vs=>
  obtain⟨b',es,rfl,h1,h2,_⟩:=h
  simp only[own,Option.some.injEq] at hb
  subst hb
  exact⟨(Array.getElem?_eq_some_iff.1 h2.1).1,h1⟩
 | oR ks vs=>
  obtain⟨b',es,rfl,h1,h2,_⟩:=h
  simp only[own,Option.some.injEq] at hb
  subst hb
  exact⟨(Array.getElem?_eq_some_iff.1 h2.1).1,h1⟩
 | iter ks vs done=>
  obtain⟨b',mb,es,seen,rfl,h1,h2,_⟩:=h
  simp only[own,Option.some.injEq] at hb
  subst hb
  exact⟨(Array.getElem?_eq_some_iff.1 h2).1,h1⟩
 | frame base vals t=>rw[h.1] at hb;cases hb
 | loop base n ps cQ body t st ed=>
  obtain⟨b',r,rfl,h1,h2,_⟩:=h
  simp only[own,Option.some.injEq] at hb
  subst hb
  exact⟨(Array.getElem?_eq_some_iff.1 h2).1,h1⟩
theorem rI.yO {B:Nat} {w:World} {I:aC} {m:Nat→Value} {l:List AO} {v:Value} {o:AO} (h:rI B w I m l v o) (hs:eD w I) (ho:o ≠ .dead) {b:Nat} (hb:own v=some b):¬ I.df b:=by
 cases o with
 | dead=>exact absurd rfl ho
 | var ty cs=>
  obtain⟨b',vs,rfl,h1,h2,_⟩:=h
  simp only[own,Option.some.injEq] at hb
  subst hb
  exact hs.yO h2 (by simp)
 | row e size els=>obtain⟨xs,h1,_⟩:=h;exact hs.SI h1 hb
 | cF e size els=>obtain⟨xs,h1,_⟩:=h;exact hs.SI h1 hb
 | map ks vs=>
  obtain⟨b',es,rfl,h1,h2,_⟩:=h
  simp only[own,Option.some.injEq] at hb
  subst hb
  exact hs.yO h2.1 (by simp)
 | oR ks vs=>
  obtain⟨b',es,rfl,h1,h2,_⟩:=h
  simp only[own,Option.some.injEq] at hb
  subst hb
  exact hs.yO h2.1 (by simp)
 | iter ks vs done=>
  obtain⟨b',mb,es,seen,rfl,h1,h2,_⟩:=h
  simp only[own,Option.some.injEq] at hb
  subst hb
  exact hs.yO h2 (by simp)
 | frame base vals t=>rw[h.1] at hb;cases hb
 | loop base n ps cQ body t st ed=>
  obtain⟨b',r,rfl,h1,h2,_⟩:=h
  simp only[own,Option.some.injEq] at hb
  subst hb
  exact hs.yO h2 (by simp)
theorem bZ {l:List AO} {id:Nat}:alive l id=true↔∃ o,l[id]?=some o∧o ≠ .dead:=by
 unfold alive isVar isRow
 cases h:l[id]? with
 | none=>simp
 | some o=>cases o<;>simp[AO.isVar,AO.isRow]
section
variable {w0 w w':World} {I0 I J:aC} {m:Nat→Value} {l:List AO}
theorem aI.call (h:aI w0 I0 w I m l) (hb:eL w.heap.size w w') (he:jn w.heap.size I J) (hs:eD w' J):aI w0 I0 w' J m l∧Le I m l J m l:=by
 have hle:Le I m l J m l:=⟨he.le (fun b hd=>h.sat.tu hd),Nat.le_refl _,fun _ _ k=>⟨k,rfl⟩,fun _ _ k=>⟨k,rfl⟩,fun _ _ _ els _ k=>⟨els,k⟩⟩
 refine⟨⟨h.below.trans (hb.mono h.below.size),hs,h.ext.trans he h.below.size,fun id o ho=>?_,h.sep⟩,hle⟩
 by_cases hd:o = .dead
 ·subst hd;trivial
 exact(h.obj id o ho).pR hle (fun b bP=>hb.block b ((h.obj id o ho).lt hd bP).1) (fun b bP=>⟨he.cell b ((h.obj id o ho).lt hd bP).1,he.mp b ((h.obj id o ho).lt hd bP).1⟩)
def bG (m:Nat→Value) (id:Nat) (v:Value):Nat→Value:=fun k=>if k=id then v else m k
theorem nT (m:Nat→Value) (id:Nat) (v:Value):bG m id v id=v:=by simp[bG]
theorem eh (m:Nat→Value) {id k:Nat} (v:Value) (h:k≠id):bG m id v k=m k:=by simp[bG,h]
theorem Le.new {nid:Nat} {o:AO} {v:Value} (hn:l[nid]?=some .dead) (ho:o.isRow=false):Le I m l I (bG m nid v) (l.set nid o):=by
 have ba:∀ id,id≠nid→(l.set nid o)[id]?=l[id]?:=fun id h=>by rw[List.getElem?_set];simp[Ne.symm h]
 have aN:nid < l.length:=(List.getElem?_eq_some_iff.1 hn).1
 have j7:(l.set nid o)[nid]?=some o:=by rw[List.getElem?_set];simp[aN]
 refine⟨.refl I,by simp,fun id aB hv=>?_,fun id aB hr=>?_,fun id e size els aB hh=>?_⟩
 ·have:id≠nid:=by rintro rfl;unfold isVar at hv;rw[hn] at hv;simp[AO.isVar] at hv
  refine⟨?_,eh m v this⟩
  unfold isVar;rw[ba id this];exact hv
 ·by_cases h:id=nid
  ·subst h;unfold isRow at hr;rw[j7] at hr;simp[ho] at hr
  refine⟨?_,eh m v h⟩
  unfold isRow at hr ⊢;rw[ba id h] at hr;exact hr
 by_cases h:id=nid
 ·subst h;rw[j7] at hh;rcases hh with hh | hh<;>(injection hh with hh;subst hh;simp[AO.isRow] at ho)
 rw[ba id h] at hh;exact⟨els,hh⟩
theorem aI.alloc (h:aI w0 I0 w I m l) (ob:Obj) {nid:Nat} {o:AO} {v:Value} (hn:l[nid]?=some .dead) (ho:o.isRow=false) (hv:own v=some w.heap.size)
  (fB:rI w0.heap.size (w.alloc ob) I (bG m nid v) (l.set nid o) v o):aI w0 I0 (w.alloc ob) I (bG m nid v) (l.set nid o):=by
 have hle:Le I m l I (bG m nid v) (l.set nid o):=Le.new hn ho
 have aN:nid < l.length:=(List.getElem?_eq_some_iff.1 hn).1
 have j7:(l.set nid o)[nid]?=some o:=by rw[List.getElem?_set];simp[aN]
 have ba:∀ id,id≠nid→(l.set nid o)[id]?=l[id]?:=fun id h=>by rw[List.getElem?_set];simp[Ne.symm h]
 have hold:∀ id,id≠nid→alive (l.set nid o) id=true→∀ b,own (m id)=some b→b < w.heap.size:=by
  intro id aB ha b hb
  obtain⟨o',cv,hd⟩:=bZ.1 ha
  rw[ba id aB] at cv
  exact((h.obj id o' cv).lt hd hb).1
 refine⟨h.below.alloc h.below.size ob,⟨fun b o' u hc=>?_,fun b es hc=>?_,fun b hd=>(Below.heap_alloc w ob b (h.sat.tu hd)).trans (h.sat.df b hd),h.sat.dS⟩,h.ext,fun id o' cv=>?_,fun i j b cj hi hj cY cT=>?_⟩
 ·rw[World.cell?_alloc_lt w ob _ (h.sat.lt hc)];exact h.sat.cell b o' u hc
 ·have hh:=h.sat.mp b es hc
  exact iT.to (Below.heap_alloc w ob b (h.sat.wi hc)) hh
 ·by_cases aB:id=nid
  ·subst aB;rw[j7] at cv;injection cv with cv;subst cv;rw[nT];exact fB
  rw[ba id aB] at cv;rw[eh m v aB]
  by_cases hd:o' = .dead
  ·subst hd;trivial
  exact(h.obj id o' cv).pR hle (fun b hb=>Below.heap_alloc w ob b ((h.obj id o' cv).lt hd hb).1) (fun b _=>⟨rfl,rfl⟩)
 by_cases h1:i=nid
 ·subst h1;rw[nT] at cY;rw[eh m v (Ne.symm cj)] at cT
  rw[hv] at cY;injection cY with cY
  have:=hold j (Ne.symm cj) hj b cT;omega
 by_cases h2:j=nid
 ·subst h2;rw[nT] at cT;rw[eh m v cj] at cY
  rw[hv] at cT;injection cT with cT
  have:=hold i cj hi b cY;omega
 rw[eh m v h1] at cY;rw[eh m v h2] at cT
 refine h.sep i j b cj ?_ ?_ cY cT
 ·obtain⟨o',cv,hd⟩:=bZ.1 hi;rw[ba i h1] at cv;exact bZ.2 ⟨o',cv,hd⟩
 obtain⟨o',cv,hd⟩:=bZ.1 hj;rw[ba j h2] at cv;exact bZ.2 ⟨o',cv,hd⟩
theorem aI.push (h:aI w0 I0 w I m l):aI w0 I0 w I m (l++[.dead])∧Le I m l I m (l++[.dead]):=by
 have ba:∀ id,id < l.length→(l++[AO.dead])[id]?=l[id]?:=fun id aB=>List.getElem?_append_left aB
 have hde:∀ (id:Nat) o,(l++[AO.dead])[id]?=some o→o=AO.dead∨l[id]?=some o:=by
  intro id o ho
  rcases Nat.lt_trichotomy id l.length with hl | hl | hl
  ·rw[ba id hl] at ho;exact .inr ho
  ·subst hl;simp at ho;exact .inl ho.symm
  rw[List.getElem?_eq_none (by simp;omega)] at ho;cases ho
 have hle:Le I m l I m (l++[.dead]):=by
  refine⟨.refl I,by simp,fun id aB hv=>⟨?_,rfl⟩,fun id aB hr=>⟨?_,rfl⟩,fun id e size els aB hh=>⟨els,?_⟩⟩
  ·unfold isVar at hv ⊢;rw[ba id aB];exact hv
  ·unfold isRow at hr ⊢;rw[ba id aB] at hr;exact hr
  rw[ba id aB] at hh;exact hh
 have dD:∀ id,alive (l++[AO.dead]) id=true→alive l id=true:=by
  intro id ha
  obtain⟨o,ho,hd⟩:=bZ.1 ha
  rcases hde id o ho with he | he
  ·exact absurd he hd
  exact bZ.2 ⟨o,he,hd⟩
 refine⟨⟨h.below,h.sat,h.ext,fun id o ho=>?_,fun i j b cj hi hj=>h.sep i j b cj (dD i hi) (dD j hj)⟩,hle⟩
 rcases hde id o ho with rfl | he
 ·trivial
 exact(h.obj id o he).pR hle (fun _ _=>rfl) (fun _ _=>⟨rfl,rfl⟩)
end
end Go.an
namespace Go.an
open Go Go.RowKit
variable [ck]
def sS (P:Program) (t:TypeId):TD→Bool
 | .FB=>match P.underlying t with | some (.struct _) | some (.array _ _) | none=>false | _=>true
 | .tj k=>match P.underlying t with | some (.int k')=>k == k' | _=>false
 | .string=>match P.underlying t with | some .string=>true | _=>false
 | .slice e=>match P.underlying t with | some (.slice e')=>e == e' | _=>false
 | .struct fs=>match P.underlying t with | some (.struct gs)=>decide (fs=gs.toList.map fun f=>(f.offset,f.type)) | _=>false
 | .array n e=>match P.underlying t with | some (.array n' e')=>n == n'&&e == e' | _=>false
 | .map k e=>match P.underlying t with | some (.map k' e')=>k == k'&&e == e' | _=>false
def rF:List Value→List D→Bool
 | [],[]=>true
 | v::vs,d::ds=>GY v d&&rF vs ds
 | _,_=>false
def yI:Value→Bool
 | .agg _=>true
 | _=>false
def ON (P:Program) (t:TypeId) (i:TI):Bool:=
 match P.info? t with
 | some x=>x.size == i.size&&x.bytes == i.bytes&&(match x.zero with | some z=>rF z.cells.toList i.zero&&(yI z == i.desc.agg) | none=>false)&&sS P t i.desc&&decide (i.zero.length=i.size)
 | none=>false
def cP (P:Program) (E:dh):Prop:=∀ t i,E t=some i→ON P t i=true
def ee (P:Program) (f:FuncId) (ds:List D) (r:D):Prop:=
 ∀ (w:World) (I:aC) (vs:Array Value),eD w I→vs.size=ds.length→(∀ (i:Nat) v d,vs[i]?=some v→ds[i]?=some d→Rd I v d) →
  Calls P f vs w fun e w'=>∃ v J,e = .returned v∧eL w.heap.size w w'∧jn w.heap.size I J∧eD w' J∧Rd J v r
def Enters (P:Program) (f:FuncId):Prop:=∀ (args:Array Value) (w:World),(callFunc f args).run P w = .ok (.enter f args) w
def COk (P:Program) (C:O5):Prop:=∀ f ds r ob,C f ds=some (r,ob)→ob→Enters P f∧ee P f ds r
def qG (P:Program) (g:FuncId) (ts:List T) (l:List AO) (t:T) (l':List AO):Prop:=
 ∀ (w0:World) (I0:aC) (w:World) (I:aC) (m:Nat→Value) (args:Array Value),aI w0 I0 w I m l→args.size=ts.length→(∀ (i:Nat) v x,args[i]?=some v→ts[i]?=some x→aw I m l v x) →
  Calls P g args w fun e w'=>∃ v,e = .returned v∧∃ J m',Le I m l J m' l'∧aI w0 I0 w' J m' l'∧aw J m' l' v t
def G0 (P:Program) (F:DL):Prop:=∀ g ts l r,F g ts l=some r→r.ob→Enters P g∧qG P g ts l r.t r.l
def gZ (P:Program) (g:FuncId) (ts:List T) (l:List AO) (K:T→List AO→Prop):Prop:=
 Enters P g∧∀ (w0:World) (I0:aC) (w:World) (I:aC) (m:Nat→Value) (args:Array Value) (vals:Nat→Value) (ft:Tm),aI w0 I0 w I m l→args.size=ts.length→(∀ (i:Nat) v x,args[i]?=some v→ts[i]?=some x→aw I m l v x)→(∀ k,aw I m l (vals k) (get ft k)) →
  Calls P g args w fun e w'=>∃ v,e = .returned v∧∃ t l' J m',K t l'∧aI w0 I0 w' J m' l'∧aw J m' l' v t∧(∀ b,I.df b→J.df b)∧∀ k,aw J m' l' (vals k) (get ft k)
theorem gZ.mono {P:Program} {g:FuncId} {ts:List T} {l:List AO} {K K':T→List AO→Prop} (h:gZ P g ts l K) (hk:∀ t l',K t l'→K' t l'):gZ P g ts l K':=
 ⟨h.1,fun w0 I0 w I m args vals ft h1 h2 h3 h4=>(h.2 w0 I0 w I m args vals ft h1 h2 h3 h4).mono fun _ _ ⟨v,he,t,l',J,m',k1,k2⟩=>⟨v,he,t,l',J,m',hk t l' k1,k2⟩⟩
def GZ (P:Program) (xy:TypeId→Option (List Lf)):Prop:=∀ t ls,xy t=some ls→∀ (op:BinOp) (x y:Operand) (I:aC) (u v:Value) (a b:D) (w:World),Rd I u a→Rd I v b →
 ((∃ p q,a = .bool p∧b = .bool q∧ls=[.bool])∨∃ xs ys,a = .agg xs∧b = .agg ys∧ls≠[.bool]∧et ls xs=true∧et ls ys=true)→(op = .eql∨op = .neq) →
 ((do eqGuard op t x y u v;binOp op t u v:Sem Value)).run P w = .ok (.bool (if op = .eql then pd a b else !(pd a b))) w
structure bO (P:Program) (V:Env):Prop where
 E:cP P V.E
 C:COk P V.C
 eq:GZ P V.xy
 F:G0 P V.F
 prog:V.P=P
def cz (P:Program) (r:Result Next) (Q:Value→World→Prop):Prop:=
 match r with
 | .ok (.value v) w'=>Q v w'
 | .ok .skip w'=>Q undef w'
 | .ok (.enter f args) w'=>Calls P f args w' fun e Jx=>∃ v,e = .returned v∧Q v Jx
 | _=>False
theorem cz.mono {P:Program} {r:Result Next} {Q Q':Value→World→Prop} (h:cz P r Q) (hq:∀ v w,Q v w→Q' v w):cz P r Q':=by
 unfold cz at *
 split at h
 ·exact hq _ _ h
 ·exact hq _ _ h
 ·exact h.mono fun e w ⟨v,he,hv⟩=>⟨v,he,hq _ _ hv⟩
 exact h.elim
class dx where
 r:Option Nat
 pR:Nat→Prop
def dB [dx]:Fence:={ Fence.wide with round:=dx.r }
theorem Aw [dx] (f:FuncId):dB.fn f:=trivial
theorem afh [dx] {P:Program} {f:FuncId} {args:Array Value} {w:World} {R:Ending→World→Prop} (h:Calls P f args w R) (n:Nat):CallsIn dB n P f args w R:=by
 unfold dB
 cases dx.r with
 | none=>exact(callsIn_wide (n:=n)).2 h
 | some l=>exact CallsIn.inRound l ((callsIn_wide (n:=n)).2 h)
theorem cz.wpIn [dx] {P:Program} {o:Oper} {a:Act} {w:World} {K:Act→World→Prop} {Q:Exit→Act→World→Prop} (gj:∀ c,o.op ≠ .defer c) (h:cz P ((execOp a.eval o).run P w) fun v w'=>K (a.put o.dst v) w'):o.wpIn dB 0 P a w K Q:=by
 unfold Oper.wpIn
 refine⟨fun _ _=>Aw _,?_⟩
 rw[Oper.semAt_eq _ _ _ gj]
 generalize (execOp a.eval o).run P w=r at *
 unfold cz at h
 split at h
 ·exact h
 ·exact h
 ·simp only[Oper.uponIn]
  refine⟨fun h=>by simp[dB,Fence.wide] at h,afh (h.mono fun e w hv=>?_) _⟩
  obtain⟨v,he,hv⟩:=hv
  subst he;exact hv
 exact h.elim
section types
variable {P:Program} {E:dh} {t:TypeId} {i:TI}
theorem jj (h:ON P t i=true):∃ x z,P.info? t=some x∧x.size=i.size∧x.bytes=i.bytes∧x.zero=some z∧rF z.cells.toList i.zero=true∧yI z=i.desc.agg∧sS P t i.desc=true∧i.zero.length=i.size:=by
 unfold ON at h
 cases hx:P.info? t with
 | none=>simp[hx] at h
 | some x=>
  simp only[hx,Bool.and_eq_true,beq_iff_eq,decide_eq_true_eq] at h
  obtain⟨⟨⟨⟨h1,h2⟩,h3⟩,h4⟩,h5⟩:=h
  cases hz:x.zero with
  | none=>simp[hz] at h3
  | some z=>
   simp only[hz,Bool.and_eq_true,beq_iff_eq] at h3
   exact⟨x,z,rfl,h1,h2,hz,h3.1,h3.2,h4,h5⟩
theorem vq (hE:cP P E) (h:E t=some i) (w:World):(sizeOf t).run P w = .ok i.size w:=by
 obtain⟨x,z,h1,h2,_⟩:=jj (hE t i h)
 simp[sizeOf,typeInfo,h1,h2]
theorem Ud (hE:cP P E) (h:E t=some i) (w:World):∃ z,(zeroValue t).run P w = .ok z w∧rF z.cells.toList i.zero=true∧yI z=i.desc.agg∧i.zero.length=i.size:=by
 obtain⟨x,z,h1,h2,h3,h4,h5,h6,h7,h8⟩:=jj (hE t i h)
 exact⟨z,by simp[zeroValue,typeInfo,h1,h4],h5,h6,h8⟩
theorem uo (hE:cP P E) {s b:Nat} {z:List D} {e:TypeId} (h:E t=some ⟨s,b,z,.slice e⟩):P.underlying t=some (.slice e):=by
 obtain⟨x,z',h1,h2,h3,h4,h5,h6,h7,_⟩:=jj (hE t _ h)
 simp only[sS] at h7
 split at h7
 ·rename_i e' he;simp at h7;subst h7;exact he
 cases h7
theorem adb (hE:cP P E) {s b:Nat} {z:List D} (h:E t=some ⟨s,b,z,.string⟩):P.underlying t=some .string:=by
 obtain⟨x,z',h1,h2,h3,h4,h5,h6,h7,_⟩:=jj (hE t _ h)
 simp only[sS] at h7
 split at h7
 ·assumption
 cases h7
theorem UP (hE:cP P E) {s b n:Nat} {z:List D} {e:TypeId} (h:E t=some ⟨s,b,z,.array n e⟩):P.underlying t=some (.array n e):=by
 obtain⟨x,z',h1,h2,h3,h4,h5,h6,h7,_⟩:=jj (hE t _ h)
 simp only[sS] at h7
 split at h7
 ·rename_i n' e' he;simp at h7;obtain⟨rfl,rfl⟩:=h7;exact he
 cases h7
theorem ade (hE:cP P E) {s b:Nat} {z:List D} {fs:List (Nat×TypeId)} (h:E t=some ⟨s,b,z,.struct fs⟩):∃ gs,P.underlying t=some (.struct gs)∧fs=gs.toList.map fun f=>(f.offset,f.type):=by
 obtain⟨x,z',h1,h2,h3,h4,h5,h6,h7,_⟩:=jj (hE t _ h)
 simp only[sS] at h7
 split at h7
 ·rename_i gs he;exact⟨gs,he,of_decide_eq_true h7⟩
 cases h7
theorem ak0 (hE:cP P E) (h:E t=some i) (w:World):(isAgg t).run P w = .ok i.desc.agg w:=by
 obtain⟨x,z',h1,h2,h3,h4,h5,h6,h7,_⟩:=jj (hE t _ h)
 unfold isAgg
 cases hu:P.underlying t with
 | none=>cases hd:i.desc<;>simp[hd,sS,hu] at h7
 | some d=>cases hd:i.desc<;>cases d<;>simp[hd,sS,hu] at h7<;>simp[run_underlying hu,TD.agg]
end types
theorem aeL (I:aC) {v:Value} {d:D} (h:GY v d=true):Rd I v d∧d.one=true:=by
 unfold GY at h
 split at h
 all_goals first | (cases h;done) | skip
 all_goals try simp only[Bool.and_eq_true,beq_iff_eq] at h
 ·subst h;exact⟨.bool _,rfl⟩
 ·obtain⟨rfl,rfl⟩:=h;exact⟨.int _ _,rfl⟩
 ·have:=ByteArray.ext h;subst this;exact⟨.str _,rfl⟩
 ·exact⟨.uj _ _ _ (Nat.zero_le _),rfl⟩
 ·exact⟨.qA,rfl⟩
 ·exact⟨.Iy,rfl⟩
 ·exact⟨.wm,rfl⟩
 exact⟨.C6,rfl⟩
theorem As (I:aC):∀ (vs:List Value) (ds:List D),rF vs ds=true→vs.length=ds.length∧(∀ d∈ds,d.one=true)∧∀ (i:Nat) v d,vs[i]?=some v→ds[i]?=some d→Rd I v d
 | [],[],_=>⟨rfl,by simp,by simp⟩
 | v::vs,d::ds,h=>by
  simp only[rF,Bool.and_eq_true] at h
  obtain⟨h1,h2,h3⟩:=As I vs ds h.2
  obtain⟨k1,k2⟩:=aeL I h.1
  refine⟨by simp[h1],by simp[k2];exact h2,fun i x y hx hy=>?_⟩
  rcases i with _ | i
  ·simp at hx hy;subst hx;subst hy;exact k1
  simp at hx hy;exact h3 i x y hx hy
 | [],_::_,h=>by simp[rF] at h
 | _::_,[],h=>by simp[rF] at h
end Go.an
namespace Go.an
open Go Go.RowKit
variable [ck]
def jm (l L:List AO):Prop:=∀ (id:Nat),id < l.length→L[id]?=l[id]?
theorem jm.refl (l:List AO):jm l l:=fun _ _=>rfl
theorem jm.get {l L:List AO} (h:jm l L) {id:Nat} {o:AO} (ho:l[id]?=some o):L[id]?=some o:=(h id (List.getElem?_eq_some_iff.1 ho).1).trans ho
theorem Rd.aj6 {I:aC} {v:Value} {d:D} (h:Rd I v d) (hv:v.oneCell'=true):d.one=true:=by
 cases h<;>simp_all [D.one,Value.oneCell']
theorem T9 {I:aC} {m:Nat→Value} {L:List AO} {v:Value} {t:T} {x:D} (h:aw I m L v t) (hx:fo t=some x):Rd I v x:=by
 cases h<;>simp[fo] at hx
 ·subst hx;assumption
 subst hx;exact .uj _ _ _ (Nat.zero_le _)
theorem akJ {I:aC} {m:Nat→Value} {L:List AO}:∀ (vs:List Value) (ts:List T) (ds:List D),ts.mapM fo=some ds→vs.length=ts.length→(∀ (i:Nat) v t,vs[i]?=some v→ts[i]?=some t→aw I m L v t) →
  vs.length=ds.length∧∀ (i:Nat) v d,vs[i]?=some v→ds[i]?=some d→Rd I v d
 | [],[],ds,h,_,_=>by simp at h;subst h;simp
 | v::vs,t::ts,ds,h,hl,hr=>by
  simp only[List.mapM_cons,Option.bind_eq_bind,Option.bind_eq_some_iff,Option.pure_def,Option.some.injEq] at h
  obtain⟨x,hx,xs,qz,rfl⟩:=h
  obtain⟨h1,h2⟩:=akJ vs ts xs qz (by simpa using hl) (fun i v t hv ht=>hr (i+1) v t (by simpa using hv) (by simpa using ht))
  refine⟨by simp[h1],fun i u d hu hd=>?_⟩
  rcases i with _ | i
  ·simp at hu hd;subst hu;subst hd
   exact T9 (hr 0 v t rfl rfl) hx
  simp at hu hd;exact h2 i u d hu hd
 | [],_::_,_,_,hl,_=>by simp at hl
 | _::_,[],_,_,hl,_=>by simp at hl
theorem UK {P:Program} {E:dh} {t:TypeId} {i:TI} (hE:cP P E) (h:E t=some i) (ha:i.desc.agg=false):i.size=1:=by
 obtain⟨x,z,h1,h2,h3,h4,h5,h6,h7,h8⟩:=jj (hE t i h)
 rw[ha] at h6
 have hz:z.cells.toList.length=1:=by cases z<;>simp_all [yI,Value.cells]
 have:=(As (I:=⟨fun _ _=>none,fun _=>none,fun _=>False⟩) _ _ h5).1
 omega
theorem ak1 {P:Program} {E:dh} {t:TypeId} {i:TI} (hE:cP P E) (h:E t=some i) (w:World) (b o:Nat) (cs:List Value) (hl:cs.length=i.size) (hc:w.rangeAt b o cs) :
  (Instr.loadAt t (.pointer (some ⟨b,o,none⟩))).run P w = .ok (if i.desc.agg then .agg cs.toArray else cs.headD undef) w:=by
 have hA:=ak0 hE h
 have hS:=vq hE h
 cases ha:i.desc.agg with
 | true=>
  have iK:(loadCells ⟨b,o,none⟩ cs.length).run P w = .ok cs.toArray w:=
   run_loadCells_list (P:=P) w ⟨b,o,none⟩ cs (fun j v hv=>by rw[Addr.add_mid];exact hc j v hv)
  simp only[Instr.loadAt,Instr.sureAddr,Sem.run_bind,Sem.run_pure,Result.andThen_ok,loadVar,hA,ha,hS,←hl,iK,if_true]
 | false=>
  have h1:=UK hE h ha
  rw[h1] at hl
  match cs,hl with
  | [c],_=>
   have oz:w.cell? ⟨b,o,none⟩=some c:=by simpa using hc 0 c rfl
   simp[Instr.loadAt,Instr.sureAddr,Sem.run_bind,Result.andThen_ok,loadVar,hA,ha,oz,List.headD]
theorem azu {w:World} {b off n:Nat} {vs:Array Value} {ty:TypeId} {fr:Nat×Nat} (h:w.heap[b]?=some (.cells vs ty fr)):w.rangeAt b off ((vs.toList.drop off).take n):=by
 intro j v hv
 rw[List.getElem?_take] at hv
 split at hv
 ·rw[List.getElem?_drop] at hv
  simp only[World.cell?,h]
  simpa using hv
 cases hv
theorem afs:∀ (ts:List T) (ds:List D),ts.mapM fV=some ds→ts.mapM fo=some ds
 | [],ds,h=>h
 | t::ts,ds,h=>by
  simp only[List.mapM_cons,Option.bind_eq_bind,Option.bind_eq_some_iff,Option.pure_def,Option.some.injEq] at h ⊢
  obtain⟨x,hx,xs,qz,rfl⟩:=h
  refine⟨x,?_,xs,afs ts xs qz,rfl⟩
  cases t<;>simp[fV] at hx
  subst hx;rfl
theorem aaq {I:aC} {m:Nat→Value} {L:List AO} {i:TI} {vs:List Value} {ts:List T} (hl:vs.length=ts.length) (hn:vs.length=i.size) (h1:i.desc.agg=false→i.size=1)
  (hr:∀ (j:Nat) v t,vs[j]?=some v→ts[j]?=some t→aw I m L v t∧v.oneCell'=true):aw I m L (if i.desc.agg then .agg vs.toArray else vs.headD undef) (gH i.desc.agg ts):=by
 cases ha:i.desc.agg with
 | true=>
  simp only[if_true,gH]
  cases hm:ts.mapM fV with
  | none=>
   refine .agg _ _ (by simpa using hl) (fun j v hv=>?_) (fun j v t hv ht=>(hr j v t (by simpa using hv) ht).1)
   have dW:vs[j]?=some v:=by simpa using hv
   have hj:=(List.getElem?_eq_some_iff.1 dW).1
   exact(hr j v _ dW (List.getElem?_eq_getElem (by omega))).2
  | some ds=>
   obtain⟨k1,k2⟩:=akJ vs ts ds (afs ts ds hm) hl (fun j v t hv ht=>(hr j v t hv ht).1)
   refine .d _ _ (.agg _ _ (by simpa using k1) (fun d hd=>?_) (fun j v d hv hd=>k2 j v d (by simpa using hv) hd))
   obtain⟨j,hj,rfl⟩:=List.mem_iff_getElem.1 hd
   have hv:vs[j]?=some (vs[j]'(by omega)):=List.getElem?_eq_getElem (by omega)
   have ht:ts[j]?=some (ts[j]'(by omega)):=List.getElem?_eq_getElem (by omega)
   exact(k2 j _ _ hv (List.getElem?_eq_getElem hj)).aj6 (hr j _ _ hv ht).2
 | false=>
  have:=h1 ha
  match vs,ts,hl,(by omega:vs.length=1) with
  | [v],[t],_,_=>simpa [gH] using (hr 0 v t rfl rfl).1
theorem flat_get {size:Nat}:∀ (els:List D),(∀ d∈els,d.cells.length=size)→∀ (k j:Nat) (d:D),els[k]?=some d→j < size→(flat els)[k*size+j]?=d.cells[j]?
 | [],_,k,j,d,h,_=>by simp at h
 | e::els,hs,k,j,d,h,hj=>by
  have he:e.cells.length=size:=hs e (by simp)
  simp only[flat,List.flatMap_cons]
  rcases k with _ | k
  ·simp at h;subst h
   rw[List.getElem?_append_left (by omega)];simp
  simp at h
  rw[List.getElem?_append_right (by rw[he,Nat.add_mul];omega)]
  have:=flat_get els (fun d hd=>hs d (by simp[hd])) k j d h hj
  rw[he]
  rw[show(k+1)*size+j - size=k*size+j by rw[Nat.add_mul];omega]
  exact this
theorem ql {size:Nat}:∀ (els:List D),(∀ d∈els,d.cells.length=size)→(flat els).length=els.length*size
 | [],_=>by simp[flat]
 | e::els,hs=>by
  have:=ql els (fun d hd=>hs d (by simp[hd]))
  simp only[flat,List.flatMap_cons,List.length_append,List.length_cons] at *
  rw[hs e (by simp),this,Nat.add_mul];omega
theorem aac {P:Program} {E:dh} {ty:TypeId} {i:TI} (hE:cP P E) (h:E ty=some i) {w:World} {I:aC} {m:Nat→Value} {L:List AO} {b o size k off:Nat} {els:List D} {val:Nat→Value}
  (hs:∀ d∈els,d.cells.length=size∧∀ x∈d.cells,x.one=true)
  (hc:∀ j,j < els.length*size→w.cell? ⟨b,o+j,none⟩=some (val j)) (hr:∀ (j:Nat) x,(flat els)[j]?=some x→Rd I (val j) x) (af:(fC i size els k off).ob) :
  (fC i size els k off).bI = .none∧∃ u,(Instr.loadAt ty (.pointer (some ⟨b,o+k*size+off,none⟩))).run P w = .ok u w∧aw I m L u (fC i size els k off).t:=by
 have cW:∀ d∈els,d.cells.length=size:=fun d hd=>(hs d hd).1
 have hk:k < els.length:=by unfold fC at af;split at af<;>exact af.1
 have r7:els[k]?=some els[k]:=List.getElem?_eq_getElem hk
 have qY:jU els k=els[k]:=by simp[jU,r7]
 have Rh:off+i.size≤size:=by
  unfold fC at af;split at af
  ·rename_i hh;omega
  exact af.2
 have qq:els[k]∈els:=List.getElem_mem hk
 have fW:els[k].cells.length=size:=cW _ qq
 have hbound:∀ j,j < size→k*size+j < els.length*size:=fun j hj=>by
  have:(k+1)*size≤els.length*size:=Nat.mul_le_mul_right _ hk
  rw[Nat.add_mul] at this;omega
 have as3:w.rangeAt b (o+k*size+off) ((List.range i.size).map fun j=>val (k*size+(off+j))):=by
  intro j v hv
  simp only[List.getElem?_map] at hv
  by_cases hj:j < i.size
  ·simp[hj] at hv
   have:=hc (k*size+(off+j)) (hbound _ (by omega))
   rw[show o+k*size+off+j=o+(k*size+(off+j)) by omega,this,hv]
  simp[hj] at hv
 have asC:=ak1 hE h w b (o+k*size+off) _ (by simp) as3
 have CO:∀ j,j < i.size→∀ x,els[k].cells[off+j]?=some x→Rd I (val (k*size+(off+j))) x:=fun j hj x hx=>
  hr _ x ((flat_get els cW k (off+j) els[k] r7 (by omega)).trans hx)
 have asJ:∀ x∈els[k].cells,x.one=true:=(hs _ qq).2
 refine⟨by unfold fC;split<;>rfl,_,asC,?_⟩
 have w7:∀ ds:List D,ds=(els[k].cells.drop off).take i.size→aw I m L (if i.desc.agg then .agg ((List.range i.size).map fun j=>val (k*size+(off+j))).toArray else((List.range i.size).map fun j=>val (k*size+(off+j))).headD undef) (.d (dG i.desc.agg ds)):=by
  intro ds oU
  have hlen:ds.length=i.size:=by rw[oU,List.length_take,List.length_drop,fW];omega
  have cB:∀ (j:Nat) x,ds[j]?=some x→j < i.size∧els[k].cells[off+j]?=some x:=by
   intro j x hx
   have hj:j < i.size:=by rw[←hlen];exact(List.getElem?_eq_some_iff.1 hx).1
   rw[oU,List.getElem?_take,if_pos hj,List.getElem?_drop] at hx
   exact⟨hj,hx⟩
  cases ha:i.desc.agg with
  | true=>
   simp only[if_true,dG]
   refine .d _ _ (.agg _ _ (by simp[hlen]) (fun d hd=>?_) (fun j v d hv hd=>?_))
   ·rw[oU] at hd
    exact asJ d (List.mem_of_mem_drop (List.mem_of_mem_take hd))
   obtain⟨hj,hx⟩:=cB j d hd
   have:v=val (k*size+(off+j)):=by
    simp[hj] at hv
    exact hv.symm
   rw[this];exact CO j hj d hx
  | false=>
   have h1:=UK hE h ha
   rw[h1] at hlen ⊢
   match ds,hlen,cB with
   | [x],_,cB=>
    obtain⟨_,hx⟩:=cB 0 x rfl
    simp only[dG,List.headD,Bool.false_eq_true,if_false]
    exact .d _ _ (by simpa using CO 0 (by omega) x hx)
 by_cases hh:size=i.size∧off=0
 ·simp only[fC,if_pos hh] at af ⊢
  have aS:size=i.size:=hh.1
  have ho:off=0:=hh.2
  have EM:jf (jU els k)=i.desc.agg:=af.2
  have:=w7 els[k].cells (by subst ho;rw[List.drop_zero,List.take_of_length_le (by omega)])
  rw[qY] at EM ⊢
  have hm:dG i.desc.agg els[k].cells=els[k]:=by
   cases he:els[k]<;>simp_all [jf,dG,D.cells]
  rw[hm] at this
  exact this
 simp only[fC,if_neg hh]
 rw[qY]
 exact w7 _ rfl
section
variable {P:Program} {V:Env} {w0 w:World} {I0 I:aC} {m:Nat→Value} {l L:List AO}
theorem akR {w:World} {B:Nat} {e:TypeId} {size n b c:Nat} {xs:List Value} (h:w.ownsRow B e size (.slice (some ⟨b,0,none⟩) n c) n xs):∀ (j:Nat) x,xs[j]?=some x→w.cell? ⟨b,j,none⟩=some x:=by
 intro j x hx
 rcases h.2 with ⟨hv,_⟩ | ⟨g,cap,cur,hv,hb,hg,h1,h2,h3,h4⟩
 ·cases hv
 injection hv with hv _ _;injection hv with hv;injection hv with hv;subst hv
 rw[←h4,List.getElem?_take] at hx
 split at hx
 ·simpa [World.cell?,hg] using hx
 cases hx
theorem akS {B:Nat} {v:Value} {e:TypeId} {size b n c:Nat} {els:List D} {xs:List Value} (h1:w.ownsRow B e size v els.length xs) (hv:v = .slice (some ⟨b,0,none⟩) n c):els.length=n∧∀ (j:Nat) x,xs[j]?=some x→w.cell? ⟨b,j,none⟩=some x:=by
 have hn:els.length=n:=by
  rcases h1.2 with ⟨q,_⟩ | ⟨g,cap,cur,q,_⟩<;>rw[q] at hv
  ·cases hv
  injection hv
 subst hn;subst hv
 exact⟨rfl,akR h1⟩
theorem aiP (hE:cP P V.E) (aq:aI w0 I0 w I m L) (hc:jm l L) {ty:TypeId} {v:Value} {x:T} (hx:aw I m L v x) (af:(eI V.E ty l x).ob) :
  (eI V.E ty l x).bI = .none∧∃ u,(Instr.loadAt ty v).run P w = .ok u w∧aw I m L u (eI V.E ty l x).t:=by
 cases hx with
 | ptr id b off hv hm=>
  simp only[eI] at af ⊢
  cases hi:V.E ty with
  | none=>simp[hi,R.bad] at af
  | some i=>
   cases ho:l[id]? with
   | none=>simp[hi,ho,R.bad] at af
   | some o=>
    cases o with
    | var t' cs=>
     simp only[hi,ho] at af ⊢
     split at af
     ·rename_i hle
      rw[if_pos hle]
      obtain⟨b',vs,dW,h1,h2,h3,h4,h5⟩:=aq.obj id _ (hc.get ho)
      rw[hm] at dW;injection dW with dW;injection dW with dW;injection dW with dW;subst dW
      have hlen:((vs.toList.drop off).take i.size).length=i.size:=by simp;omega
      refine⟨rfl,_,ak1 hE hi w b off _ hlen (azu h2),?_⟩
      refine aaq (by simp;omega) hlen (UK hE hi) (fun j v t hv ht=>?_)
      rw[List.getElem?_take] at hv ht
      split at hv
      ·rename_i hj
       rw[if_pos hj] at ht
       rw[List.getElem?_drop] at hv ht
       exact h4 (off+j) v t (by simpa using hv) ht
      cases hv
     simp[R.bad] at af
    | _=>simp[hi,ho,R.bad] at af
 | fy b o size els k off val h1 h2 h3 h4=>
  simp only[eI] at af ⊢
  cases hi:V.E ty with
  | none=>simp[hi,R.bad] at af
  | some i=>
   simp only[hi] at af ⊢
   exact aac hE hi h2 (fun j hj=>aq.sat.cell _ _ _ (h3 j hj)) h4 af
 | dH a id k off h1 h2=>
  simp only[eI] at af ⊢
  cases hi:V.E ty with
  | none=>simp[hi,R.bad] at af
  | some i=>
   cases ho:l[id]? with
   | none=>simp[hi,ho,R.bad] at af
   | some o=>
    cases o with
    | row e size els=>
     simp only[hi,ho] at af ⊢
     obtain⟨b,n,c,q1,rfl⟩:=h2 e size els (.inl (hc.get ho))
     obtain⟨xs,k1,k2,k3,k4⟩:=aq.obj id _ (hc.get ho)
     obtain⟨hn,oz⟩:=akS k1 q1
     have cw:xs.length=els.length*size:=k1.1
     have:=aac (P:=P) (I:=I) (m:=m) (L:=L) (w:=w) (b:=b) (o:=0) (k:=k) (off:=off) (val:=fun j=>(xs[j]?).getD undef) hE hi k2
      (
       fun j hj=>by rw[Nat.zero_add];exact oz j _ (by simp[cw,hj])) (fun j x hx=>by
       have ra:j < els.length*size:=by rw[←ql els (fun d hd=>(k2 d hd).1)];exact(List.getElem?_eq_some_iff.1 hx).1
       have qz:xs[j]?=some (xs[j]'(by omega)):=List.getElem?_eq_getElem (by omega)
       rw[qz];exact k3 j _ x qz hx) af
     simpa using this
    | cF e size els=>
     simp only[hi,ho] at af ⊢
     obtain⟨b,n,c,q1,rfl⟩:=h2 e size els (.inr (hc.get ho))
     obtain⟨xs,k1,k2,k3,k4⟩:=aq.obj id _ (hc.get ho)
     obtain⟨hn,oz⟩:=akS k1 q1
     have cw:xs.length=els.length*size:=k1.1
     have:=aac (P:=P) (I:=I) (m:=m) (L:=L) (w:=w) (b:=b) (o:=0) (k:=k) (off:=off) (val:=fun j=>(xs[j]?).getD undef) hE hi k2
      (
       fun j hj=>by rw[Nat.zero_add];exact oz j _ (by simp[cw,hj])) (fun j x hx=>by
       have ra:j < els.length*size:=by rw[←ql els (fun d hd=>(k2 d hd).1)];exact(List.getElem?_eq_some_iff.1 hx).1
       have qz:xs[j]?=some (xs[j]'(by omega)):=List.getElem?_eq_getElem (by omega)
       rw[qz];exact k3 j _ x qz hx) af
     simpa using this
    | _=>simp[hi,ho,R.bad] at af
 | _=>simp[eI,R.bad] at af
end
end Go.an
namespace Go.an
open Go Go.RowKit
variable [ck]
section
variable {P:Program} {V:Env} {w0 w:World} {I0 I:aC} {m:Nat→Value} {l L:List AO}
theorem xt {l:List AO} {id:Nat} {o o':AO} (h:l[id]?=some o) (hv:o.isVar=o'.isVar) (k:Nat):isVar (l.set id o') k=isVar l k:=by
 unfold isVar
 by_cases hk:k=id
 ·subst hk
  rw[List.getElem?_set,if_pos rfl,if_pos (List.getElem?_eq_some_iff.1 h).1,h];simp[hv]
 rw[List.getElem?_set,if_neg (Ne.symm hk)]
theorem xr {l:List AO} {id:Nat} {o o':AO} (h:l[id]?=some o) (hv:o.isRow=o'.isRow) (k:Nat):isRow (l.set id o') k=isRow l k:=by
 unfold isRow
 by_cases hk:k=id
 ·subst hk
  rw[List.getElem?_set,if_pos rfl,if_pos (List.getElem?_eq_some_iff.1 h).1,h];simp[hv]
 rw[List.getElem?_set,if_neg (Ne.symm hk)]
theorem Le.alc {id:Nat} {ty ty':TypeId} {cs qJ:List T} (h:l[id]?=some (.var ty cs)):Le I m l I m (l.set id (.var ty' qJ)):=by
 refine⟨.refl I,by simp,fun k _ hk=>⟨(xt (o':= .var ty' qJ) h rfl k).trans hk,rfl⟩,fun k _ hk=>⟨(xr (o':= .var ty' qJ) h rfl k).symm.trans hk,rfl⟩,fun k e size els hk hh=>⟨els,?_⟩⟩
 by_cases gP:k=id
 ·subst gP;rw[List.getElem?_set,if_pos rfl,if_pos (List.getElem?_eq_some_iff.1 h).1] at hh;simp at hh
 rw[List.getElem?_set,if_neg (Ne.symm gP)] at hh;exact hh
theorem az8 (hE:cP P V.E) (aq:aI w0 I0 w I m l) {id off b:Nat} {ty t':TypeId} {cs:List T} {x:T} {v:Value} (ho:l[id]?=some (.var t' cs)) (hm:m id = .pointer (some ⟨b,0,none⟩))
  (hx:aw I m l v x) (h1:(bf x).all T.eT=true) (hn:(bf x).length=bw V.E ty) (cC:0 < (bf x).length) (hle:off+(bf x).length≤cs.length) :
  ∃ w',(Instr.storeAt ty (.pointer (some ⟨b,off,none⟩)) v).run P w = .ok () w'∧aI w0 I0 w' I m (l.set id (.var t' (setAt cs off (bf x)))):=by
 obtain⟨b',vs,dW,k1,k2,k3,k4,k5⟩:=aq.obj id _ ho
 rw[hm] at dW;injection dW with dW;injection dW with dW;injection dW with dW;subst dW
 have w7:v.cells.toList.length=(bf x).length∧(∀ u∈v.cells.toList,u.oneCell'=true)∧∀ (i:Nat) u t,v.cells.toList[i]?=some u→(bf x)[i]?=some t→aw I m l u t:=by
  have one:∀ (u:Value),u.oneCell'=true→u.cells.toList=[u]:=fun u hu=>by cases u<;>simp_all [Value.oneCell',Value.cells]
  have single:∀ (t:T),bf t=[t]→aw I m l v t→v.oneCell'=true→v.cells.toList.length=(bf t).length∧(∀ u∈v.cells.toList,u.oneCell'=true)∧∀ (i:Nat) u s,v.cells.toList[i]?=some u→(bf t)[i]?=some s→aw I m l u s:=by
   intro t ht hr hv
   rw[one v hv,ht]
   refine⟨rfl,by simpa using hv,fun i u s hu hs=>?_⟩
   rcases i with _ | i
   ·simp at hu hs;subst hu;subst hs;exact hr
   simp at hu
  cases hx with
  | undef=>simp[bf,T.eT] at h1
  | d _ d hd=>
   by_cases ht:∃ ds,d = .bn ds
   ·obtain⟨ds,rfl⟩:=ht;simp[bf,D.cells,T.eT,D.one] at h1
   obtain⟨q1,q2,q3⟩:=hd.cells (fun ds e=>ht ⟨ds,e⟩)
   refine⟨by simp[bf,q1],fun u hu=>?_,fun i u t hu yB=>?_⟩
   ·obtain⟨i,hi,rfl⟩:=List.mem_iff_getElem.1 hu
    have gi:i < d.cells.length:=by simp at hi;omega
    exact(q3 i _ d.cells[i] (by rw[←Array.getElem?_toList];exact List.getElem?_eq_getElem hi) (List.getElem?_eq_getElem gi)).one (q2 _ (List.getElem_mem gi))
   simp only[bf,List.getElem?_map] at yB
   cases bg:d.cells[i]? with
   | none=>simp[bg] at yB
   | some y=>
    simp[bg] at yB
    subst yB
    exact .d _ _ (q3 i u y (by simpa using hu) bg)
  | ao s=>exact single _ rfl (.ao s) rfl
  | ptr id b off q1 q2=>exact single _ rfl (.ptr id b off q1 q2) rfl
  | fy b o size els k off val q1 q2 q3 q4=>exact single _ rfl (.fy b o size els k off val q1 q2 q3 q4) rfl
  | bn=>simp[bf,T.eT] at h1
  | cond=>simp[bf,T.eT] at h1
  | row A n c id q1 q2=>exact single _ rfl (.row A n c id q1 q2) rfl
  | fQ A n c id x q1 q2 q3=>exact single _ rfl (.fQ A n c id x q1 q2 q3) rfl
  | dH a id k off q1 q2=>exact single _ rfl (.dH a id k off q1 q2) rfl
  | map r id q1 q2=>exact single _ rfl (.map r id q1 q2) rfl
  | aR g vs ts q1 q2=>exact single _ rfl (.aR g vs ts q1 q2) rfl
  | cE id b q1 q2=>exact single _ rfl (.cE id b q1 q2) rfl
  | sub A n c id lo hi q1 q2=>exact single _ rfl (.sub A n c id lo hi q1 q2) rfl
  | agg vs ts q1 q2 q3=>
   refine⟨by simp[bf,Value.cells,q1],fun u hu=>?_,fun i u t hu ht=>q3 i u t (by simpa [Value.cells] using hu) (by simpa [bf] using ht)⟩
   obtain⟨i,hi,rfl⟩:=List.mem_iff_getElem.1 hu
   simp only[Value.cells] at hi ⊢
   exact q2 i _ (by rw[←Array.getElem?_toList];exact List.getElem?_eq_getElem hi)
 obtain⟨c1,c2,c3⟩:=w7
 have qv:(sizeOf ty).run P w = .ok v.cells.size w:=by
  cases hi:V.E ty with
  | none=>simp only[bw,hi,Option.map_none,Option.getD_none] at hn;omega
  | some i=>
   rw[vq hE hi w]
   simp only[bw,hi,Option.map_some,Option.getD_some] at hn
   rw[Array.length_toList] at c1;congr 1;omega
 have gQ:=run_storeCells_at P b off t' v.cells.toList 0 vs w k2 (by rw[k3];omega) c2
 refine⟨_,by simp only[Instr.storeAt,Instr.sureAddr,Sem.run_bind,Sem.run_pure,Result.andThen_ok,storeVar,qv,ne_eq,not_true_eq_false,if_false,gQ];rfl,?_⟩
 simp only[Nat.add_zero]
 generalize fA:(vs.toList.take off++v.cells.toList++vs.toList.drop (off+v.cells.toList.length)).toArray=new
 have aN:b < w.heap.size:=(Array.getElem?_eq_some_iff.1 k2).1
 have arM:(w.setRow b new).heap[b]?=some (.cells new t' (0,0)):=setRow_heap w b vs new t' (0,0) k2
 have aht:Le I m l I m (l.set id (.var t' (setAt cs off (bf x)))):=Le.alc ho
 have hY:id < l.length:=(List.getElem?_eq_some_iff.1 ho).1
 refine⟨aq.below.trans ⟨rfl,rfl,rfl,by simp,fun k hk=>setRow_other w b _ new (by omega),fun _=>Nat.le_refl _⟩,⟨fun b' o u hc=>?_,fun b' es hc=>?_,fun b' hd=>(setRow_other w b _ new (fun e=>by subst e;exact aq.sat.yO k2 (by simp) hd)).trans (aq.sat.df b' hd),aq.sat.dS⟩,aq.ext,fun j o hj=>?_,fun i j b' cj hi hj cY cT=>?_⟩
 ·have ba:b'≠b:=by rintro rfl;rw[k5.1] at hc;cases hc
  have:=aq.sat.cell b' o u hc
  exact(World.cell?_of_block (w:=w) (a:=⟨b',o,none⟩) (setRow_other w b _ new ba)).trans this
 ·have ba:b'≠b:=by rintro rfl;rw[k5.2] at hc;cases hc
  have hh:=aq.sat.mp b' es hc
  exact iT.to (setRow_other w b _ new ba) hh
 ·by_cases ec:j=id
  ·subst ec
   rw[List.getElem?_set,if_pos rfl,if_pos hY] at hj
   injection hj with hj;subst hj
   refine⟨b,new,hm,k1,arM,?_,fun i u t hu ht=>?_,k5⟩
   ·subst fA;simp[setAt,k3,List.length_append,List.length_take,List.length_drop] at c1 ⊢;omega
   subst fA
   have key:∀ (i:Nat),(vs.toList.take off++v.cells.toList++vs.toList.drop (off+v.cells.toList.length))[i]?=some u→(setAt cs off (bf x))[i]?=some t→aw I m l u t∧u.oneCell'=true:=by
    intro i hu ht
    have l1:(vs.toList.take off).length=off:=by simp;omega
    have l2:(cs.take off).length=off:=by simp;omega
    rw[List.append_assoc,List.getElem?_append] at hu
    rw[setAt,List.append_assoc,List.getElem?_append] at ht
    rw[l1] at hu;rw[l2] at ht
    by_cases hi:i < off
    ·rw[if_pos hi] at hu ht
     rw[List.getElem?_take,if_pos hi] at hu ht
     exact k4 i u t (by simpa using hu) ht
    rw[if_neg hi] at hu ht
    rw[List.getElem?_append] at hu ht
    rw[c1] at hu
    by_cases LS:i - off < (bf x).length
    ·rw[if_pos LS] at hu ht
     refine⟨c3 _ u t hu ht,c2 u ?_⟩
     exact List.mem_of_getElem? hu
    rw[if_neg LS] at hu ht
    rw[List.getElem?_drop] at hu ht
    exact k4 _ u t (by simpa using hu) ht
   have:=key i (by simpa using hu) ht
   exact⟨this.1.mono aht,this.2⟩
  rw[List.getElem?_set,if_neg (Ne.symm ec)] at hj
  by_cases hd:o = .dead
  ·subst hd;trivial
  refine(aq.obj j o hj).pR aht (fun b' bP=>setRow_other w b _ new ?_) (fun _ _=>⟨rfl,rfl⟩)
  rintro rfl
  exact aq.sep j id b' ec (bZ.2 ⟨o,hj,hd⟩) (bZ.2 ⟨_,ho,by simp⟩) bP (by rw[hm];rfl)
 refine aq.sep i j b' cj ?_ ?_ cY cT
 ·unfold alive at hi ⊢;rwa [xt (o':= .var t' (setAt cs off (bf x))) ho rfl,xr (o':= .var t' (setAt cs off (bf x))) ho rfl] at hi
 unfold alive at hj ⊢;rwa [xt (o':= .var t' (setAt cs off (bf x))) ho rfl,xr (o':= .var t' (setAt cs off (bf x))) ho rfl] at hj
end
end Go.an
namespace Go.an
open Go Go.RowKit
variable [ck]
section
variable {P:Program} {V:Env} {w0 w:World} {I0 I:aC} {m:Nat→Value} {l L:List AO}
theorem aI.ac8 (h:aI w0 I0 w I m l) {id:Nat} {o o':AO} {J:aC} (ho:l[id]?=some o) (hv:o.isVar=o'.isVar) (hr:o.isRow=o'.isRow) (hoo:o'.isRow=true)
  (ja:∀ e size els,(o' = .row e size els∨o' = .cF e size els)→∃ els',(o = .row e size els'∨o = .cF e size els'))
  (hle:I.le J) (hJ:∀ b,own (m id)≠some b→J.cell b=I.cell b∧J.mp b=I.mp b) (bX:eD w J)
  (fB:rI w0.heap.size w J m (l.set id o') (m id) o'):aI w0 I0 w J m (l.set id o')∧Le I m l J m (l.set id o'):=by
 have hY:id < l.length:=(List.getElem?_eq_some_iff.1 ho).1
 have Lx:Le I m l J m (l.set id o'):=by
  refine⟨hle,by simp,fun k _ hk=>⟨(xt ho hv k).trans hk,rfl⟩,fun k _ hk=>⟨(xr ho hr k).symm.trans hk,rfl⟩,fun k e size els hk hh=>?_⟩
  by_cases gP:k=id
  ·subst gP;rw[List.getElem?_set,if_pos rfl,if_pos hY] at hh
   have hh':o' = .row e size els∨o' = .cF e size els:=by rcases hh with hh | hh<;>(injection hh with hh;simp[hh])
   obtain⟨els',hc⟩:=ja e size els hh'
   exact⟨els',by rcases hc with hc | hc<;>rw[ho,hc]<;>simp⟩
  rw[List.getElem?_set,if_neg (Ne.symm gP)] at hh;exact⟨els,hh⟩
 have A2:o ≠ .dead:=by rintro rfl;rw[←hr] at hoo;simp[AO.isRow] at hoo
 refine⟨⟨h.below,bX,⟨fun _ _ _ x=>hle.cell _ _ _ (h.ext.lc _ _ _ x),fun _ _ x=>hle.mp _ _ (h.ext.lm _ _ x),fun b hb x=>hle.df b (h.ext.ld b hb x),fun b hb=>?_,fun b hb=>?_⟩,fun j o1 hj=>?_,fun i j b cj hi hj=>?_⟩,Lx⟩
 ·by_cases bP:own (m id)=some b
  ·have:=((h.obj id o ho).lt A2 bP).2;omega
  exact(hJ b bP).1.trans (h.ext.cell b hb)
 ·by_cases bP:own (m id)=some b
  ·have:=((h.obj id o ho).lt A2 bP).2;omega
  exact(hJ b bP).2.trans (h.ext.mp b hb)
 ·by_cases ec:j=id
  ·subst ec;rw[List.getElem?_set,if_pos rfl,if_pos hY] at hj;injection hj with hj;subst hj;exact fB
  rw[List.getElem?_set,if_neg (Ne.symm ec)] at hj
  by_cases hd:o1 = .dead
  ·subst hd;trivial
  exact(h.obj j o1 hj).pR Lx (fun _ _=>rfl) (fun b hb=>hJ b (fun he=>h.sep j id b ec (bZ.2 ⟨o1,hj,hd⟩) (bZ.2 ⟨o,ho,A2⟩) hb he))
 refine h.sep i j b cj ?_ ?_
 ·unfold alive at hi ⊢;rwa [xt (o':=o') ho hv,xr (o':=o') ho hr] at hi
 unfold alive at hj ⊢;rwa [xt (o':=o') ho hv,xr (o':=o') ho hr] at hj
def aC.fG (I:aC) (b:Nat) (xs:List Value):aC:=⟨fun b' o=>if b'=b then(match xs[o]? with | some x=>some x | none=>I.cell b o) else I.cell b' o,I.mp,I.df⟩
def aC.Gb (I:aC) (b:Nat) (es:ME):aC:=⟨I.cell,fun b'=>if b'=b then some es else I.mp b',I.df⟩
theorem T8 {J:aC} {v:Value} {B:Nat} {e:TypeId} {size:Nat} {els:List D} {xs:List Value} (h1:w.ownsRow B e size v els.length xs) (h2:∀ d∈els,d.cells.length=size∧∀ x∈d.cells,x.one=true)
  (h3:∀ (j:Nat) x y,xs[j]?=some x→(flat els)[j]?=some y→Rd J x y) (hJ:∀ b,own v=some b→∀ (j:Nat) x,xs[j]?=some x→J.cell b j=some x):Rd J v (.slice size els):=by
 have cw:xs.length=els.length*size:=h1.1
 rcases h1.2 with ⟨rfl,hn⟩ | ⟨g,cap,cur,rfl,hb,hg,k1,k2,k3,k4⟩
 ·have:els=[]:=List.eq_nil_of_length_eq_zero hn
  subst this
  exact .uj _ _ _ (Nat.zero_le _)
 refine .slice g 0 els.length cap size els (fun j=>(xs[j]?).getD undef) rfl k1 k2 h2 (fun j hj=>?_) (fun j x hx=>?_)
 ·have qz:xs[j]?=some (xs[j]'(by omega)):=List.getElem?_eq_getElem (by omega)
  rw[Nat.zero_add,qz];exact hJ g rfl j _ qz
 have ra:j < els.length*size:=by rw[←ql els (fun d hd=>(h2 d hd).1)];exact(List.getElem?_eq_some_iff.1 hx).1
 have qz:xs[j]?=some (xs[j]'(by omega)):=List.getElem?_eq_getElem (by omega)
 rw[qz];exact h3 j _ x qz hx
theorem ac4 (aq:aI w0 I0 w I m l) {v:Value} {t:T} {x:D} {l':List AO} (ht:aw I m l v t) (hd:dA l t=some (x,l')):∃ J,Le I m l J m l'∧aI w0 I0 w J m l'∧Rd J v x∧l'.length=l.length:=by
 cases ht with
 | d v y hy=>simp[dA] at hd;obtain⟨rfl,rfl⟩:=hd;exact⟨I,.refl ..,aq,hy,rfl⟩
 | ao s=>simp[dA] at hd;obtain⟨rfl,rfl⟩:=hd;exact⟨I,.refl ..,aq,.uj _ _ _ (Nat.zero_le _),rfl⟩
 | fQ A n c id x h1 h2 h3=>simp[dA] at hd;obtain⟨rfl,rfl⟩:=hd;exact⟨I,.refl ..,aq,h3,rfl⟩
 | row A n c id h1 h2=>
  simp only[dA] at hd
  cases ho:l[id]? with
  | none=>simp[ho] at hd
  | some o=>
   cases o with
   | cF e s els=>
    simp only[ho,Option.some.injEq,Prod.mk.injEq] at hd
    obtain⟨rfl,rfl⟩:=hd
    have hm:=h2 (by simp[isRow,ho,AO.isRow])
    obtain⟨xs,k1,k2,k3,k4⟩:=aq.obj id _ ho
    rw[hm] at k1 k4
    exact⟨I,.refl ..,aq,T8 k1 k2 k3 (fun b hb=>(k4 b hb).2.1),rfl⟩
   | row e s els=>
    simp only[ho,Option.some.injEq,Prod.mk.injEq] at hd
    obtain⟨rfl,rfl⟩:=hd
    have hm:=h2 (by simp[isRow,ho,AO.isRow])
    obtain⟨xs,k1,k2,k3,k4⟩:=aq.obj id _ ho
    rcases af:own (m id) with _ | b
    ·
     have X0:∀ b,own (m id)≠some b:=fun b h=>by rw[af] at h;cases h
     obtain⟨r1,r2⟩:=aq.ac8 (o':= .cF e s els) (J:=I) ho rfl rfl rfl (fun e' s' els' h=>by rcases h with h | h<;>cases h;exact⟨els,.inl rfl⟩) (.refl I) (fun _ _=>⟨rfl,rfl⟩) aq.sat ⟨xs,k1,k2,k3,fun b hb=>absurd hb (X0 b)⟩
     rw[hm] at k1 X0
     exact⟨I,r2,r1,T8 k1 k2 k3 (fun b hb=>absurd hb (X0 b)),by simp⟩
    obtain⟨n1,n2⟩:=k4 b af
    let J:=I.fG b xs
    have hJc:∀ (j:Nat) x,xs[j]?=some x→J.cell b j=some x:=fun j x hx=>by simp[J,aC.fG,hx]
    have hle:I.le J:=⟨fun b' o u hc=>by
     by_cases bP:b'=b
     ·subst bP;rw[n1 o] at hc;cases hc
     simp[J,aC.fG,bP,hc],fun _ _ h=>h,fun _ h=>h⟩
    have oW:∀ b',some b≠some b'→J.cell b'=I.cell b'∧J.mp b'=I.mp b':=fun b' bP=>⟨by funext o;simp[J,aC.fG,show b'≠b from fun e=>bP (by rw[e])],rfl⟩
    have w7:∀ (j:Nat) x,xs[j]?=some x→w.cell? ⟨b,j,none⟩=some x:=by
     rw[hm] at k1 af
     cases A with
     | none=>simp[own] at af
     | some a=>
      obtain⟨q,_⟩:∃ cap,(Value.slice (some a) n c) = .slice (some ⟨b,0,none⟩) els.length cap∧True:=by
       rcases k1.2 with ⟨q,_⟩ | ⟨g,cap,cur,q,_⟩
       ·cases q
       rw[q] at af;simp[own] at af;subst af;exact⟨cap,q,trivial⟩
      rename_i hq
      rw[hq.1] at k1
      exact akR k1
    have bX:eD w J:=⟨fun b' o u hc=>by
     by_cases bP:b'=b
     ·subst bP
      simp only[J,aC.fG,if_true] at hc
      cases hx:xs[o]? with
      | none=>simp only[hx] at hc;rw[n1 o] at hc;cases hc
      | some x=>simp only[hx] at hc;injection hc with hc;subst hc;exact w7 o x hx
     simp only[J,aC.fG,if_neg bP] at hc;exact aq.sat.cell b' o u hc,aq.sat.mp,aq.sat.df,fun g d h=>(aq.sat.dS g d h).mono hle⟩
    obtain⟨r1,r2⟩:=aq.ac8 (o':= .cF e s els) (J:=J) ho rfl rfl rfl (fun e' s' els' h=>by rcases h with h | h<;>cases h;exact⟨els,.inl rfl⟩) hle (fun b' bP=>oW b' (fun e=>bP (af.trans e))) bX
     ⟨xs,k1,k2,fun j x y hx hy=>(k3 j x y hx hy).mono hle,fun b' bP=>by
      rw[af] at bP;injection bP with bP;subst bP
      exact⟨n2,hJc,fun j hj=>by simp only[J,aC.fG,if_true,List.getElem?_eq_none hj];exact n1 j⟩⟩
    rw[hm] at k1 af
    exact⟨J,r2,r1,T8 k1 k2 (fun j x y hx hy=>(k3 j x y hx hy).mono hle) (fun b' bP=>by rw[af] at bP;injection bP with bP;subst bP;exact hJc),by simp⟩
   | _=>simp[ho] at hd
 | map r id h1 h2=>
  simp only[dA] at hd
  cases ho:l[id]? with
  | none=>simp[ho] at hd
  | some o=>
   cases o with
   | oR ks vs=>
    simp only[ho,Option.some.injEq,Prod.mk.injEq] at hd
    obtain⟨rfl,rfl⟩:=hd
    have hm:=h2 (by simp[isRow,ho,AO.isRow])
    obtain⟨b,es,q1,q2,q3,q4,q5,q6,q7,q8,q9⟩:=aq.obj id _ ho
    rw[hm] at q1;injection q1 with q1;subst q1
    exact⟨I,.refl ..,aq,.map b es ks vs q9 q4 q5 q6 q7,rfl⟩
   | map ks vs=>
    simp only[ho,Option.some.injEq,Prod.mk.injEq] at hd
    obtain⟨rfl,rfl⟩:=hd
    have hm:=h2 (by simp[isRow,ho,AO.isRow])
    obtain⟨b,es,q1,q2,q3,q4,q5,q6,q7,q8⟩:=aq.obj id _ ho
    have af:own (m id)=some b:=by rw[q1];rfl
    let J:=I.Gb b es
    have hle:I.le J:=⟨fun _ _ _ h=>h,fun b' es' hc=>by
     by_cases bP:b'=b
     ·subst bP;rw[q8.2] at hc;cases hc
     simp[J,aC.Gb,bP,hc],fun _ h=>h⟩
    have bX:eD w J:=⟨aq.sat.cell,fun b' es' hc=>by
     by_cases bP:b'=b
     ·subst bP;simp only[J,aC.Gb,if_true] at hc;injection hc with hc;subst hc;exact q3
     simp only[J,aC.Gb,if_neg bP] at hc;exact aq.sat.mp b' es' hc,aq.sat.df,fun g d h=>(aq.sat.dS g d h).mono hle⟩
    obtain⟨r1,r2⟩:=aq.ac8 (o':= .oR ks vs) (J:=J) ho rfl rfl rfl (fun e' s' els' h=>by rcases h with h | h<;>cases h) hle
     (fun b' bP=>⟨rfl,by simp[J,aC.Gb,show b'≠b from fun e=>bP (by rw[af,e])]⟩) bX
     ⟨b,es,q1,q2,q3,q4,q5,fun i e d he hd=>(q6 i e d he hd).mono hle,fun i e d he hd=>(q7 i e d he hd).mono hle,q8.1,by simp[J,aC.Gb]⟩
    rw[hm] at q1;injection q1 with q1;subst q1
    exact⟨J,r2,r1,.map b es ks vs (by simp[J,aC.Gb]) q4 q5 (fun i e d he hd=>(q6 i e d he hd).mono hle) (fun i e d he hd=>(q7 i e d he hd).mono hle),by simp⟩
   | _=>simp[ho] at hd
 | _=>simp[dA] at hd
theorem ae0:∀ (ts:List T) (l:List AO) (I:aC) (vs:List Value) (ds:List D) (l':List AO),aI w0 I0 w I m l→vs.length=ts.length→(∀ (i:Nat) v t,vs[i]?=some v→ts[i]?=some t→aw I m l v t)→dR l ts=some (ds,l') →
  ∃ J,Le I m l J m l'∧aI w0 I0 w J m l'∧vs.length=ds.length∧(∀ (i:Nat) v d,vs[i]?=some v→ds[i]?=some d→Rd J v d)∧l'.length=l.length
 | [],l,I,vs,ds,l',aq,hl,hr,hd=>by
  simp[dR] at hd;obtain⟨rfl,rfl⟩:=hd
  have:vs=[]:=List.eq_nil_of_length_eq_zero (by simpa using hl)
  subst this
  exact⟨I,.refl ..,aq,rfl,by simp,rfl⟩
 | t::ts,l,I,vs,ds,l',aq,hl,hr,hd=>by
  match vs,hl with
  | v::vs,hl=>
   simp only[dR] at hd
   cases h1:dA l t with
   | none=>simp[h1] at hd
   | some p=>
    obtain⟨x,l1⟩:=p
    simp only[h1] at hd
    cases h2:dR l1 ts with
    | none=>simp[h2] at hd
    | some q=>
     obtain⟨xs,l2⟩:=q
     simp only[h2,Option.some.injEq,Prod.mk.injEq] at hd
     obtain⟨rfl,rfl⟩:=hd
     obtain⟨J1,pS,r1,x1,n1⟩:=ac4 aq (hr 0 v t rfl rfl) h1
     obtain⟨J2,MI,r2,q1,q2,n2⟩:=ae0 ts l1 J1 vs xs l2 r1 (by simpa using hl) (fun i v t hv ht=>(hr (i+1) v t (by simpa using hv) (by simpa using ht)).mono pS) h2
     refine⟨J2,pS.trans MI,r2,by simp[q1],fun i u d hu bg=>?_,by omega⟩
     rcases i with _ | i
     ·simp at hu bg;subst hu;subst bg;exact x1.mono MI.eR
     simp at hu bg;exact q2 i u d hu bg
theorem ac5 {l:List AO} {t:T} {x:D} {l':List AO} (hq:fg l t=true) (h:dA l t=some (x,l')):l'=l:=by
 cases t<;>simp[fg,dA] at hq h
 ·exact h.2.symm
 ·exact h.2.symm
 ·rename_i id
  cases ho:l[id]? with
  | none=>simp[ho] at hq
  | some o=>cases o<;>simp[ho] at hq h;exact h.2.symm
 ·rename_i id
  cases ho:l[id]? with
  | none=>simp[ho] at hq
  | some o=>cases o<;>simp[ho] at hq h;exact h.2.symm
 exact h.2.symm
theorem ae1:∀ (ts:List T) {l:List AO} {ds:List D} {l':List AO},ts.all (fg l)=true→dR l ts=some (ds,l')→l'=l
 | [],l,ds,l',_,h=>by simp[dR] at h;exact h.2.symm
 | t::ts,l,ds,l',hq,h=>by
  simp only[List.all_cons,Bool.and_eq_true] at hq
  simp only[dR] at h
  cases h1:dA l t with
  | none=>simp[h1] at h
  | some p=>
   obtain⟨x,l1⟩:=p
   simp only[h1] at h
   have:=ac5 hq.1 h1
   subst this
   cases h2:dR l1 ts with
   | none=>simp[h2] at h
   | some q=>
    obtain⟨xs,l2⟩:=q
    simp only[h2,Option.some.injEq,Prod.mk.injEq] at h
    rw[←h.2];exact ae1 ts hq.2 h2
theorem amt {l L:List AO} (hc:jm l L) {t:T} {x:D} {l':List AO} (hq:fg l t=true) (h:dA l t=some (x,l')):dA L t=some (x,L)∧fg L t=true:=by
 cases t<;>simp[fg,dA] at hq h ⊢
 ·exact h.1
 ·exact h.1
 ·rename_i id
  cases ho:l[id]? with
  | none=>simp[ho] at hq
  | some o=>cases o<;>simp[ho] at hq h;simp[hc.get ho,h.1]
 ·rename_i id
  cases ho:l[id]? with
  | none=>simp[ho] at hq
  | some o=>cases o<;>simp[ho] at hq h;simp[hc.get ho,h.1]
 exact h.1
theorem aeZ:∀ (ts:List T) {l L:List AO} {ds:List D} {l':List AO},jm l L→ts.all (fg l)=true→dR l ts=some (ds,l')→dR L ts=some (ds,L)
 | [],l,L,ds,l',_,_,h=>by simp[dR] at h ⊢;exact h.1
 | t::ts,l,L,ds,l',hc,hq,h=>by
  simp only[List.all_cons,Bool.and_eq_true] at hq
  simp only[dR] at h ⊢
  cases h1:dA l t with
  | none=>simp[h1] at h
  | some p=>
   obtain⟨x,l1⟩:=p
   simp only[h1] at h
   have:=ac5 hq.1 h1
   subst this
   cases h2:dR l1 ts with
   | none=>simp[h2] at h
   | some q=>
    obtain⟨xs,l2⟩:=q
    simp only[h2,Option.some.injEq,Prod.mk.injEq] at h
    rw[(amt hc hq.1 h1).1]
    simp only[aeZ ts hc hq.2 h2,h.1]
theorem ayY {l L:List AO} (hc:jm l L) {t:T} (hq:fg l t=true):fg L t=true:=by
 cases t<;>simp[fg] at hq ⊢
 ·rename_i id
  cases ho:l[id]? with
  | none=>simp[ho] at hq
  | some o=>cases o<;>simp[ho] at hq;simp[hc.get ho]
 rename_i id
 cases ho:l[id]? with
 | none=>simp[ho] at hq
 | some o=>cases o<;>simp[ho] at hq;simp[hc.get ho]
theorem azy {v:Value} {ts:List T} (h:aw I m l v (.agg ts)):∃ vs:Array Value,v = .agg vs∧vs.size=ts.length∧(∀ (i:Nat) v,vs[i]?=some v→v.oneCell'=true)∧∀ (i:Nat) v t,vs[i]?=some v→ts[i]?=some t→aw I m l v t:=by
 cases h with
 | agg vs _ h1 h2 h3=>exact⟨vs,rfl,h1,h2,h3⟩
theorem UL {l:List AO} {ts:List T} {x:D} {l':List AO} (h:dY l (.agg ts)=some (x,l')):∃ ds,x = .agg ds∧dR l ts=some (ds,l'):=by
 simp only[dY] at h
 cases h1:dR l ts with
 | none=>rw[h1] at h;cases h
 | some p=>
  obtain⟨ds,l1⟩:=p
  rw[h1] at h;simp at h
  exact⟨ds,h.1.symm,by rw[h.2]⟩
theorem UM {l:List AO} {t:T} (h:∀ ts,t ≠ .agg ts):dY l t=dA l t:=by
 cases t<;>first | rfl | exact absurd rfl (h _)
theorem akm {l:List AO} {t:T} (h:∀ ts,t ≠ .agg ts):gK l t=fg l t:=by
 cases t<;>first | rfl | exact absurd rfl (h _)
theorem Jw (aq:aI w0 I0 w I m l) {v:Value} {t:T} {x:D} {l':List AO} (ht:aw I m l v t) (hd:dY l t=some (x,l')):∃ J,Le I m l J m l'∧aI w0 I0 w J m l'∧Rd J v x∧l'.length=l.length:=by
 by_cases ha:∃ ts,t = .agg ts
 ·obtain⟨ts,rfl⟩:=ha
  obtain⟨ds,rfl,oU⟩:=UL hd
  obtain⟨vs,rfl,h1,h2,h3⟩:=azy ht
  obtain⟨J,le,r1,q1,q2,q3⟩:=ae0 ts l I vs.toList ds l' aq (by simpa using h1) (fun i v t hv ht=>h3 i v t (by simpa using hv) ht) oU
  have q1':vs.size=ds.length:=by simpa using q1
  refine⟨J,le,r1,.agg vs ds q1' (fun d hd=>?_) (fun i v d hv hd=>q2 i v d (by simpa using hv) hd),q3⟩
  obtain⟨i,hi,rfl⟩:=List.mem_iff_getElem.1 hd
  have hv:vs[i]?=some (vs[i]'(by omega)):=Array.getElem?_eq_getElem (by omega)
  exact(q2 i _ _ (by simpa using hv) (List.getElem?_eq_getElem hi)).aj6 (h2 i _ hv)
 rw[UM fun ts h=>ha ⟨ts,h⟩] at hd
 exact ac4 aq ht hd
theorem DQ:∀ (ts:List T) (l:List AO) (I:aC) (vs:List Value) (ds:List D) (l':List AO),aI w0 I0 w I m l→vs.length=ts.length→(∀ (i:Nat) v t,vs[i]?=some v→ts[i]?=some t→aw I m l v t)→dQ l ts=some (ds,l') →
  ∃ J,Le I m l J m l'∧aI w0 I0 w J m l'∧vs.length=ds.length∧(∀ (i:Nat) v d,vs[i]?=some v→ds[i]?=some d→Rd J v d)∧l'.length=l.length
 | [],l,I,vs,ds,l',aq,hl,hr,hd=>by
  simp[dQ] at hd;obtain⟨rfl,rfl⟩:=hd
  have:vs=[]:=List.eq_nil_of_length_eq_zero (by simpa using hl)
  subst this
  exact⟨I,.refl ..,aq,rfl,by simp,rfl⟩
 | t::ts,l,I,vs,ds,l',aq,hl,hr,hd=>by
  match vs,hl with
  | v::vs,hl=>
   simp only[dQ] at hd
   cases h1:dY l t with
   | none=>simp[h1] at hd
   | some p=>
    obtain⟨x,l1⟩:=p
    simp only[h1] at hd
    cases h2:dQ l1 ts with
    | none=>simp[h2] at hd
    | some q=>
     obtain⟨xs,l2⟩:=q
     simp only[h2,Option.some.injEq,Prod.mk.injEq] at hd
     obtain⟨rfl,rfl⟩:=hd
     obtain⟨J1,pS,r1,x1,n1⟩:=Jw aq (hr 0 v t rfl rfl) h1
     obtain⟨J2,MI,r2,q1,q2,n2⟩:=DQ ts l1 J1 vs xs l2 r1 (by simpa using hl) (fun i v t hv ht=>(hr (i+1) v t (by simpa using hv) (by simpa using ht)).mono pS) h2
     refine⟨J2,pS.trans MI,r2,by simp[q1],fun i u d hu bg=>?_,by omega⟩
     rcases i with _ | i
     ·simp at hu bg;subst hu;subst bg;exact x1.mono MI.eR
     simp at hu bg;exact q2 i u d hu bg
theorem aAk {l:List AO} {t:T} {x:D} {l':List AO} (hq:gK l t=true) (h:dY l t=some (x,l')):l'=l:=by
 by_cases ha:∃ ts,t = .agg ts
 ·obtain⟨ts,rfl⟩:=ha
  obtain⟨ds,rfl,oU⟩:=UL h
  exact ae1 ts hq oU
 rw[UM fun ts h=>ha ⟨ts,h⟩] at h
 rw[akm fun ts h=>ha ⟨ts,h⟩] at hq
 exact ac5 hq h
theorem aAj {l L:List AO} (hc:jm l L) {t:T} {x:D} {l':List AO} (hq:gK l t=true) (h:dY l t=some (x,l')):dY L t=some (x,L)∧gK L t=true:=by
 by_cases ha:∃ ts,t = .agg ts
 ·obtain⟨ts,rfl⟩:=ha
  obtain⟨ds,rfl,oU⟩:=UL h
  refine⟨by simp only[dY,aeZ ts hc hq oU],?_⟩
  simp only[gK,List.all_eq_true] at hq ⊢
  intro t ht
  exact ayY hc (hq t ht)
 rw[UM fun ts h=>ha ⟨ts,h⟩] at h ⊢
 rw[akm fun ts h=>ha ⟨ts,h⟩] at hq ⊢
 exact amt hc hq h
theorem ae3:∀ (ts:List T) {l L:List AO} {ds:List D} {l':List AO},jm l L→ts.all (gK l)=true→dQ l ts=some (ds,l')→dQ L ts=some (ds,L)
 | [],l,L,ds,l',_,_,h=>by simp[dQ] at h ⊢;exact h.1
 | t::ts,l,L,ds,l',hc,hq,h=>by
  simp only[List.all_cons,Bool.and_eq_true] at hq
  simp only[dQ] at h ⊢
  cases h1:dY l t with
  | none=>simp[h1] at h
  | some p=>
   obtain⟨x,l1⟩:=p
   simp only[h1] at h
   have:=aAk hq.1 h1
   subst this
   cases h2:dQ l1 ts with
   | none=>simp[h2] at h
   | some q=>
    obtain⟨xs,l2⟩:=q
    simp only[h2,Option.some.injEq,Prod.mk.injEq] at h
    rw[(aAj hc hq.1 h1).1]
    simp only[ae3 ts hc hq.2 h2,h.1]
end
end Go.an
namespace Go.an
open Go Go.RowKit
variable [ck]
def cy (P:Program) (w0:World) (I0:aC) (o:Oper) (ρ:Operand→Value) (w:World) (I:aC) (m:Nat→Value) (l L:List AO) (nid:Nat) (r:R):Prop:=
 match r.bI with
 | .none=>cz P ((execOp ρ o).run P w) fun v w'=>∃ J,Le I m L J m L∧aI w0 I0 w' J m L∧aw J m L v r.t
 | .new a=>L[nid]?=some .dead→cz P ((execOp ρ o).run P w) fun v w'=>∃ m',Le I m L I m' (L.set nid a)∧aI w0 I0 w' I m' (L.set nid a)∧aw I m' (L.set nid a) v r.t
 | .bG l'=>L=l→nid=l.length→cz P ((execOp ρ o).run P w) fun v w'=>∃ J m',Le I m l J m' l'∧aI w0 I0 w' J m' l'∧aw J m' l' v r.t
section
variable {P:Program} {V:Env} {w0 w:World} {I0 I:aC} {m:Nat→Value} {l L:List AO} {nid:Nat} {o:Oper} {ρ:Operand→Value} {ρT:Operand→T}
theorem cy.val (aq:aI w0 I0 w I m L) {r:R} {u:Value} (he:r.bI = .none) (hx:(execOp ρ o).run P w = .ok (.value u) w) (hr:aw I m L u r.t):cy P w0 I0 o ρ w I m l L nid r:=by
 unfold cy
 rw[he]
 simp only[hx,cz]
 exact⟨I,.refl ..,aq,hr⟩
theorem dp {v:Value} {x:D} (h:aw I m L v (.d x)):Rd I v x:=by cases h;assumption
theorem Of {v:Value} {pc:List (Nat×Bool×Bool)} {t:T} (h:aw I m L v (.cond pc t)) (hp:holds pc):aw I m L v t:=by cases h;rename_i _ hh;exact hh hp
theorem axO (aq:aI w0 I0 w I m L) {c a b:Operand} (ho:o.op = .pick c a b) (hr:∀ x∈o.op.operands,aw I m L (ρ x) (ρT x)) (af:(gW (ρT c) (ρT a) (ρT b)).ob) :
  cy P w0 I0 o ρ w I m l L nid (gW (ρT c) (ρT a) (ρT b)):=by
 have hc:=hr c (by simp[ho,Op.operands])
 have ha:=hr a (by simp[ho,Op.operands])
 have hb:=hr b (by simp[ho,Op.operands])
 generalize ρT c=tc at *;generalize ρT a=ta at *;generalize ρT b=tb at *
 unfold gW at af ⊢
 split at af
 ·rename_i cc
  have:=dp hc
  generalize YI:ρ c=vc at *
  cases this
  simp only at af ⊢
  split at af
  ·rename_i x p y q hx hy
   have oF:cc=true→Rd I (ρ a) (.bool x):=by
    intro iY
    split at hx
    ·simp at hx;obtain⟨rfl,_⟩:=hx;exact dp ha
    ·rename_i pc x'
     simp only[Option.some.injEq,Prod.mk.injEq] at hx;obtain⟨rfl,rfl⟩:=hx
     exact dp (Of ha (af.1 iY))
    cases hx
   have yG:cc=false→Rd I (ρ b) (.bool y):=by
    intro iY
    split at hy
    ·simp at hy;obtain⟨rfl,_⟩:=hy;exact dp hb
    ·rename_i pc x'
     simp only[Option.some.injEq,Prod.mk.injEq] at hy;obtain⟨rfl,rfl⟩:=hy
     exact dp (Of hb (af.2 iY))
    cases hy
   refine cy.val aq rfl (u:=if cc=true then ρ a else ρ b) ?_ ?_
   ·unfold execOp;simp only[ho,YI,asBool,Sem.run_bind,Sem.run_pure,Result.andThen_ok]
   cases cc with
   | true=>simpa using aw.d _ _ (oF rfl)
   | false=>simpa using aw.d _ _ (yG rfl)
  ·rename_i x p hx hy
   obtain⟨iY,af⟩:=af
   subst iY
   have oF:Rd I (ρ a) (.bool x):=by
    split at hx
    ·simp at hx;obtain⟨rfl,_⟩:=hx;exact dp ha
    ·rename_i pc x'
     simp only[Option.some.injEq,Prod.mk.injEq] at hx;obtain⟨rfl,rfl⟩:=hx
     exact dp (Of ha (af trivial))
    cases hx
   refine cy.val aq rfl (u:=ρ a) ?_ (.d _ _ oF)
   unfold execOp;simp only[ho,YI,asBool,Sem.run_bind,Sem.run_pure,Result.andThen_ok,if_true]
  ·rename_i y q hx hy
   obtain⟨iY,af⟩:=af
   subst iY
   have yG:Rd I (ρ b) (.bool y):=by
    split at hy
    ·simp at hy;obtain⟨rfl,_⟩:=hy;exact dp hb
    ·rename_i pc x'
     simp only[Option.some.injEq,Prod.mk.injEq] at hy;obtain⟨rfl,rfl⟩:=hy
     exact dp (Of hb (af trivial))
    cases hy
   refine cy.val aq rfl (u:=ρ b) ?_ (.d _ _ yG)
   unfold execOp;simp only[ho,YI,asBool,Sem.run_bind,Sem.run_pure,Result.andThen_ok,Bool.false_eq_true,if_false]
  exact af.elim
 exact af.elim
theorem afi {v:Value} {x:T} (hx:aw I m L v x) (h1:(bf x).all T.eT=true):v.cells.toList.length=(bf x).length∧(∀ u∈v.cells.toList,u.oneCell'=true)∧∀ (i:Nat) u t,v.cells.toList[i]?=some u→(bf x)[i]?=some t→aw I m L u t:=by
 have one:∀ (u:Value),u.oneCell'=true→u.cells.toList=[u]:=fun u hu=>by cases u<;>simp_all [Value.oneCell',Value.cells]
 have single:∀ (t:T),bf t=[t]→aw I m L v t→v.oneCell'=true→v.cells.toList.length=(bf t).length∧(∀ u∈v.cells.toList,u.oneCell'=true)∧∀ (i:Nat) u s,v.cells.toList[i]?=some u→(bf t)[i]?=some s→aw I m L u s:=by
  intro t ht hr hv
  rw[one v hv,ht]
  refine⟨rfl,by simpa using hv,fun i u s hu hs=>?_⟩
  rcases i with _ | i
  ·simp at hu hs;subst hu;subst hs;exact hr
  simp at hu
 cases hx with
 | undef=>simp[bf,T.eT] at h1
 | d _ d hd=>
  by_cases ht:∃ ds,d = .bn ds
  ·obtain⟨ds,rfl⟩:=ht;simp[bf,D.cells,T.eT,D.one] at h1
  obtain⟨q1,q2,q3⟩:=hd.cells (fun ds e=>ht ⟨ds,e⟩)
  refine⟨by simp[bf,q1],fun u hu=>?_,fun i u t hu yB=>?_⟩
  ·obtain⟨i,hi,rfl⟩:=List.mem_iff_getElem.1 hu
   have gi:i < d.cells.length:=by simp at hi;omega
   exact(q3 i _ d.cells[i] (by rw[←Array.getElem?_toList];exact List.getElem?_eq_getElem hi) (List.getElem?_eq_getElem gi)).one (q2 _ (List.getElem_mem gi))
  simp only[bf,List.getElem?_map] at yB
  cases bg:d.cells[i]? with
  | none=>simp[bg] at yB
  | some y=>
   simp[bg] at yB
   subst yB
   exact .d _ _ (q3 i u y (by simpa using hu) bg)
 | ao s=>exact single _ rfl (.ao s) rfl
 | ptr id b off q1 q2=>exact single _ rfl (.ptr id b off q1 q2) rfl
 | fy b o size els k off val q1 q2 q3 q4=>exact single _ rfl (.fy b o size els k off val q1 q2 q3 q4) rfl
 | bn=>simp[bf,T.eT] at h1
 | cond=>simp[bf,T.eT] at h1
 | row A n c id q1 q2=>exact single _ rfl (.row A n c id q1 q2) rfl
 | fQ A n c id x q1 q2 q3=>exact single _ rfl (.fQ A n c id x q1 q2 q3) rfl
 | dH a id k off q1 q2=>exact single _ rfl (.dH a id k off q1 q2) rfl
 | map r id q1 q2=>exact single _ rfl (.map r id q1 q2) rfl
 | aR g vs ts q1 q2=>exact single _ rfl (.aR g vs ts q1 q2) rfl
 | cE id b q1 q2=>exact single _ rfl (.cE id b q1 q2) rfl
 | sub A n c id lo hi q1 q2=>exact single _ rfl (.sub A n c id lo hi q1 q2) rfl
 | agg vs ts q1 q2 q3=>
  refine⟨by simp[bf,Value.cells,q1],fun u hu=>?_,fun i u t hu ht=>q3 i u t (by simpa [Value.cells] using hu) (by simpa [bf] using ht)⟩
  obtain⟨i,hi,rfl⟩:=List.mem_iff_getElem.1 hu
  simp only[Value.cells] at hi ⊢
  exact q2 i _ (by rw[←Array.getElem?_toList];exact List.getElem?_eq_getElem hi)
theorem ai1 (aq:aI w0 I0 w I m L) (hn:L[nid]?=some .dead) {ty:TypeId} {vs:Array Value} {cs:List T} (hl:vs.toList.length=cs.length) (h1:∀ u∈vs.toList,u.oneCell'=true)
  (hr:∀ (i:Nat) u t,vs.toList[i]?=some u→cs[i]?=some t→aw I m L u t) :
  ∃ m',Le I m L I m' (L.set nid (.var ty cs))∧aI w0 I0 (w.alloc (.cells vs ty)) I m' (L.set nid (.var ty cs))∧aw I m' (L.set nid (.var ty cs)) (.pointer (some ⟨w.heap.size,0,none⟩)) (.ptr nid 0):=by
 have hle:Le I m L I (bG m nid (.pointer (some ⟨w.heap.size,0,none⟩))) (L.set nid (.var ty cs)):=Le.new hn rfl
 have aN:nid < L.length:=(List.getElem?_eq_some_iff.1 hn).1
 refine⟨_,hle,aq.alloc _ hn rfl rfl ⟨w.heap.size,vs,rfl,aq.below.size,heap_alloc_new w _,by simpa using hl,fun i x t hx ht=>?_,aq.sat.gp (Nat.le_refl _)⟩,?_⟩
 ·exact⟨(hr i x t (by simpa using hx) ht).mono hle,h1 x (List.mem_of_getElem? (by simpa using hx:vs.toList[i]?=some x))⟩
 exact .ptr nid _ 0 (by unfold isVar;rw[List.getElem?_set,if_pos rfl,if_pos aN];rfl) (nT m nid _)
theorem anp (aq:aI w0 I0 w I m L) {e:TypeId} {x:Operand} (ho:o.op = .box e x) (hr:aw I m L (ρ x) (ρT x)) (h1:(bf (ρT x)).all T.eT=true) :
  cy P w0 I0 o ρ w I m l L nid ⟨.ptr nid 0,.new (.var e (bf (ρT x))),(bf (ρT x)).all T.eT=true⟩:=by
 intro hn
 obtain⟨c1,c2,c3⟩:=afi hr h1
 have hx:(execOp ρ o).run P w = .ok (.value (.pointer (some ⟨w.heap.size,0,none⟩))) (w.alloc (.cells (ρ x).cells e)):=by
  unfold execOp;simp[ho,Instr.box,newVar,newRow]
 simp only[hx,cz]
 exact ai1 aq hn c1 c2 c3
theorem O4:∀ {vs:List Value} {ds:List D} {j:Nat} {v:Value} {d:D},rF vs ds=true→vs[j]?=some v→ds[j]?=some d→GY v d=true
 | [],[],_,_,_,_,h,_=>by simp at h
 | v::vs,d::ds,j,u,e,h,hu,hd=>by
  simp only[rF,Bool.and_eq_true] at h
  rcases j with _ | j
  ·simp at hu hd;subst hu;subst hd;exact h.1
  simp at hu hd;exact O4 h.2 hu hd
 | [],_::_,_,_,_,h,_,_=>by simp[rF] at h
 | _::_,[],_,_,_,h,_,_=>by simp[rF] at h
theorem aeM {v:Value} {d:D} (h:GY v d=true):aw I m L v (gb d):=by
 unfold gb
 split
 ·have:v = .slice none 0 0:=by
   cases v<;>simp[GY] at h
   rename_i a n c
   cases a<;>cases n<;>cases c<;>simp_all [GY]
  subst this;exact .ao _
 exact .d _ _ (aeL I h).1
theorem ana (hE:cP P V.E) (aq:aI w0 I0 w I m L) {e:TypeId} {i:TI} (ho:o.op = .alloc e) (hi:V.E e=some i) :
  cy P w0 I0 o ρ w I m l L nid ⟨.ptr nid 0,.new (.var e (i.zero.map gb)),True⟩:=by
 intro hn
 obtain⟨z,h1,h2,h3,h4⟩:=Ud hE hi w
 obtain⟨q1,q2,q3⟩:=As I _ _ h2
 have hx:(execOp ρ o).run P w = .ok (.value (.pointer (some ⟨w.heap.size,0,none⟩))) (w.alloc (.cells z.cells e)):=by
  unfold execOp;simp[ho,Instr.alloc,h1,newVar,newRow]
 simp only[hx,cz]
 refine ai1 aq hn (by simpa using q1) (fun u hu=>?_) (fun j u t hu ht=>?_)
 ·obtain⟨j,hj,rfl⟩:=List.mem_iff_getElem.1 hu
  have gO:j < i.zero.length:=by omega
  exact(q3 j _ _ (List.getElem?_eq_getElem hj) (List.getElem?_eq_getElem gO)).one (q2 _ (List.getElem_mem gO))
 rw[List.getElem?_map] at ht
 cases hz:i.zero[j]? with
 | none=>simp[hz] at ht
 | some d=>simp[hz] at ht;subst ht;exact aeM (O4 h2 hu hz)
theorem aoP (hE:cP P V.E) {s:TypeId} {f:Nat} {v:Value} {x:T} (hx:aw I m L v x) (af:(fa V.E s f x).ob) :
  (fa V.E s f x).bI = .none∧∃ u,(Instr.fieldAt s v f).run P w = .ok u w∧aw I m L u (fa V.E s f x).t:=by
 have key:∀ {a:Addr} {sz bt:Nat} {z:List D} {fs:List (Nat×TypeId)} {p:Nat×TypeId},V.E s=some ⟨sz,bt,z,.struct fs⟩→fs[f]?=some p→0 < bw V.E p.2 →
   (Instr.fieldAt s (.pointer (some a)) f).run P w = .ok (.pointer (some (a.add p.1))) w:=by
  intro a sz bt z fs p hs hp cC
  obtain⟨gs,hu,rfl⟩:=ade hE hs
  rw[List.getElem?_map] at hp
  cases hg:gs.toList[f]? with
  | none=>simp[hg] at hp
  | some g=>
   simp[hg] at hp
   subst hp
   have zD:gs[f]?=some g:=by simpa using hg
   have aS:∃ n,(sizeOf g.type).run P w = .ok n w∧n≠0:=by
    cases hi:V.E g.type with
    | none=>simp[bw,hi] at cC
    | some i=>exact⟨i.size,vq hE hi w,by simp[bw,hi] at cC;omega⟩
   obtain⟨n,hn,ba⟩:=aS
   simp[Instr.fieldAt,run_underlying hu,zD,Instr.sureAddr,fieldPlace,hn,ba]
 cases hx with
 | ptr id b off q1 q2=>
  simp only[fa] at af ⊢
  split at af
  ·rename_i fs hs
   split at af
   ·rename_i p hp
    split at af
    ·rename_i cC
     simp only[if_pos cC]
     exact⟨rfl,_,key hs hp cC,by rw[Addr.add_mid];exact .ptr id b _ q1 q2⟩
    exact af.elim
   exact af.elim
  exact af.elim
 | fy b o size els k off val q1 q2 q3 q4=>
  simp only[fa] at af ⊢
  split at af
  ·rename_i fs hs
   split at af
   ·rename_i p hp
    split at af
    ·rename_i cC
     simp only[if_pos cC]
     refine⟨rfl,_,key hs hp cC,?_⟩
     rw[Addr.add_mid,Nat.add_assoc]
     exact .fy b o size els k _ val q1 q2 q3 q4
    exact af.elim
   exact af.elim
  exact af.elim
 | dH a id k off q1 q2=>
  simp only[fa] at af ⊢
  split at af
  ·rename_i fs hs
   split at af
   ·rename_i p hp
    split at af
    ·rename_i cC
     simp only[if_pos cC]
     refine⟨rfl,_,key hs hp cC,.dH _ id k _ q1 fun e size els hl=>?_⟩
     obtain⟨b,n,c,h1,rfl⟩:=q2 e size els hl
     exact⟨b,n,c,h1,by rw[Addr.add_mid,Nat.add_assoc]⟩
    exact af.elim
   exact af.elim
  exact af.elim
 | _=>exact af.elim
end
end Go.an
namespace Go.an
open Go Go.RowKit
variable [ck]
section
variable {P:Program} {V:Env} {w0 w:World} {I0 I:aC} {m:Nat→Value} {l L:List AO} {nid:Nat} {o:Oper} {ρ:Operand→Value} {ρT:Operand→T}
theorem aoO (hE:cP P V.E) {s:TypeId} {f:Nat} {v:Value} {x:T} (hx:aw I m L v x) (af:(gN V.E s f x).ob) :
  (gN V.E s f x).bI = .none∧∃ u,(Instr.field s v f).run P w = .ok u w∧aw I m L u (gN V.E s f x).t:=by
 unfold gN at af ⊢
 split at af
 ·rename_i cs
  split at af
  ·rename_i fs hs
   split at af
   ·rename_i p hp
    split at af
    ·rename_i i hi
     split at af
     ·rename_i hle
      simp only[if_pos hle]
      have:=dp hx
      generalize hD:D.agg cs=dd at this
      cases this<;>first | (cases hD;done) | skip
      rename_i vs ds q1 q2 q3
      injection hD with hD;subst hD
      obtain⟨gs,hu,rfl⟩:=ade hE hs
      rw[List.getElem?_map] at hp
      cases hg:gs.toList[f]? with
      | none=>simp[hg] at hp
      | some g=>
       simp[hg] at hp;subst hp
       have zD:gs[f]?=some g:=by simpa using hg
       simp only at hi hle ⊢
       have EM:=ak0 hE hi
       have aS:=vq hE hi
       cases ha:i.desc.agg with
       | true=>
        refine⟨rfl,.agg (vs.extract g.offset (g.offset+i.size)),?_,?_⟩
        ·simp only[Instr.field,Sem.run_bind,run_underlying hu,Result.andThen_ok,zD,asAgg,Sem.run_pure,part,EM,ha,if_true,aS]
        simp only[R.ok,dG,if_true]
        refine .d _ _ (.agg _ _ (by simp[q1];omega) (fun d hd=>q2 d (List.mem_of_mem_drop (List.mem_of_mem_take hd))) (fun j u d dm bg=>?_))
        rw[List.getElem?_take] at bg
        split at bg
        ·rename_i hj
         rw[List.getElem?_drop] at bg
         rw[Array.getElem?_extract] at dm
         split at dm
         ·exact q3 _ u d dm bg
         cases dm
        cases bg
       | false=>
        have h1:=UK hE hi ha
        have aN:g.offset < vs.size:=by omega
        refine⟨rfl,vs[g.offset],?_,?_⟩
        ·simp only[Instr.field,Sem.run_bind,run_underlying hu,Result.andThen_ok,zD,asAgg,Sem.run_pure,part,EM,ha,Bool.false_eq_true,if_false,Array.getElem?_eq_getElem aN]
        have HW:g.offset < cs.length:=by omega
        have:((cs.drop g.offset).take i.size).headD .qA=cs[g.offset]:=by
         rw[h1,List.drop_eq_getElem_cons HW];rfl
        simp only[R.ok,dG,Bool.false_eq_true,if_false,this]
        exact .d _ _ (q3 g.offset _ _ (Array.getElem?_eq_getElem aN) (List.getElem?_eq_getElem HW))
     exact af.elim
    exact af.elim
   exact af.elim
  exact af.elim
 exact af.elim
theorem amB {n:Int} (h : -9223372036854775808≤n∧n≤9223372036854775807):IntKind.i64.wrap n=n:=IntWalk.i64_in n (by omega)
theorem O9 {k:IntKind} {n:Int} (h:(arith k n).2):(arith k n).1 = .int k (k.wrap n):=by
 cases k<;>simp only[arith] at h ⊢
 rw[amB h]
theorem ann (QT:GZ P V.xy) {op:BinOp} {ty:TypeId} {x y:Operand} {u v:Value} {a b:D} (ha:Rd I u a) (hb:Rd I v b) {r:D} {ob:Prop} (h:iU V.xy op ty a b=some (r,ob)) (af:ob) :
  ∃ z,((do eqGuard op ty x y u v;binOp op ty u v:Sem Value)).run P w = .ok z w∧Rd I z r:=by
 unfold iU at h
 split at h
 ·
  rename_i k p k' q
  cases ha;cases hb
  split at h
  ·cases h
  rename_i hk
  have hk:k=k':=Decidable.not_not.1 hk
  subst hk
  have hg:∀ w,(eqGuard op ty x y (.int k p) (.int k q)).run P w = .ok () w:=fun w=>by rw[eqGuard_at_int];rfl
  simp only[Sem.run_bind,hg,Result.andThen_ok]
  split at h<;>first | (cases h;done) | skip
  all_goals try simp only[Option.some.injEq,Prod.mk.injEq] at h
  ·obtain⟨rfl,rfl⟩:=h;exact⟨_,by rw[binOp_add];rfl,by rw[O9 af];exact .int _ _⟩
  ·obtain⟨rfl,rfl⟩:=h;exact⟨_,by rw[binOp_sub];rfl,by rw[O9 af];exact .int _ _⟩
  ·obtain⟨rfl,rfl⟩:=h;exact⟨_,by rw[binOp_mul];rfl,by rw[O9 af];exact .int _ _⟩
  ·split at h
   ·simp only[Option.some.injEq,Prod.mk.injEq] at h
    obtain⟨rfl,rfl⟩:=h
    refine⟨.int .i64 (IntKind.i64.wrap (p.tdiv q)),by rw[binOp_quo];simp[Op.intDiv,af.1],?_⟩
    rw[amB (by have:=af.2;omega)];exact .int _ _
   cases h
  ·obtain⟨rfl,rfl⟩:=h
   refine⟨.int k (p.tmod q),by rw[binOp_rem];simp[Op.intDiv,show q≠0 from af],?_⟩
   exact .int _ _
  ·obtain⟨rfl,rfl⟩:=h;exact⟨_,by rw[binOp_eql];rfl,by rw[show(p == q)=decide (p=q) by rw[Bool.eq_iff_iff];simp];exact .bool _⟩
  ·obtain⟨rfl,rfl⟩:=h;exact⟨_,by rw[binOp_neq];rfl,by rw[show(p != q) = !decide (p=q) by rw[Bool.eq_iff_iff];simp[bne]];exact .bool _⟩
  ·obtain⟨rfl,rfl⟩:=h;exact⟨_,by rw[binOp_lss];rfl,.bool _⟩
  ·obtain⟨rfl,rfl⟩:=h;exact⟨_,by rw[binOp_leq];rfl,.bool _⟩
  ·obtain⟨rfl,rfl⟩:=h;exact⟨_,by rw[binOp_gtr];rfl,.bool _⟩
  obtain⟨rfl,rfl⟩:=h;exact⟨_,by rw[binOp_geq];rfl,.bool _⟩
 ·
  rename_i p q
  split at h
  ·split at h
   ·rename_i hk
    simp only[Option.some.injEq,Prod.mk.injEq] at h;obtain⟨rfl,rfl⟩:=h
    exact⟨_,QT ty _ hk .eql x y I u v _ _ w ha hb (.inl ⟨_,_,rfl,rfl,rfl⟩) (.inl rfl),by simp[pd];exact .bool _⟩
   cases h
  ·split at h
   ·rename_i hk
    simp only[Option.some.injEq,Prod.mk.injEq] at h;obtain⟨rfl,rfl⟩:=h
    exact⟨_,QT ty _ hk .neq x y I u v _ _ w ha hb (.inl ⟨_,_,rfl,rfl,rfl⟩) (.inr rfl),by simp[pd];exact .bool _⟩
   cases h
  cases h
 ·
  rename_i p q
  cases ha;cases hb
  have hg:∀ w,(eqGuard op ty x y (.string p) (.string q)).run P w = .ok () w:=fun w=>by rw[eqGuard_at_string];rfl
  simp only[Sem.run_bind,hg,Result.andThen_ok]
  split at h<;>first | (cases h;done) | skip
  all_goals simp only[Option.some.injEq,Prod.mk.injEq] at h;obtain⟨rfl,rfl⟩:=h
  ·exact⟨.bool (p == q),by rw[beq_toListBytes];simp[binOp,Op.stringOp],.bool _⟩
  ·exact⟨.bool (!(p == q)),by rw[beq_toListBytes];simp[binOp,Op.stringOp],.bool _⟩
  exact⟨.string (p++q),by simp[binOp,Op.stringOp,af],.str _⟩
 ·
  rename_i xs ys
  split at h
  ·split at h
   ·rename_i ls hk
    split at h
    ·cases h
    rename_i ba
    simp only[Option.some.injEq,Prod.mk.injEq] at h;obtain⟨rfl,rfl⟩:=h
    exact⟨_,QT ty _ hk .eql x y I u v _ _ w ha hb (.inr ⟨_,_,rfl,rfl,ba,af.1,af.2⟩) (.inl rfl),by simp[pd];exact .bool _⟩
   cases h
  ·split at h
   ·rename_i ls hk
    split at h
    ·cases h
    rename_i ba
    simp only[Option.some.injEq,Prod.mk.injEq] at h;obtain⟨rfl,rfl⟩:=h
    exact⟨_,QT ty _ hk .neq x y I u v _ _ w ha hb (.inr ⟨_,_,rfl,rfl,ba,af.1,af.2⟩) (.inr rfl),by simp[pd];exact .bool _⟩
   cases h
  cases h
 cases h
theorem aAo {op:UnOp} {u:Value} {a:D} (ha:Rd I u a) {r:D} {ob:Prop} (h:jk op a=some (r,ob)) (af:ob):∃ z,(Op.unary op u).run P w = .ok z w∧Rd I z r:=by
 unfold jk at h
 split at h
 ·cases ha
  split at h
  ·simp only[Option.some.injEq,Prod.mk.injEq] at h;obtain⟨rfl,rfl⟩:=h
   exact⟨_,by simp only[Op.unary,Sem.run_pure],.bool _⟩
  cases h
 ·cases ha
  split at h
  ·simp only[Option.some.injEq,Prod.mk.injEq] at h;obtain⟨rfl,rfl⟩:=h
   exact⟨_,by simp[Op.unary,Op.intArith];rfl,by rw[O9 af];simp;exact .int _ _⟩
  cases h
 cases h
theorem atJ (hE:cP P V.E) (aq:aI w0 I0 w I m L) (hc:jm l L) {t:TypeId} {v vi:Value} {x i:T} (hx:aw I m L v x) (hi:aw I m L vi i) (af:(iy V.E t l x i).ob) :
  (iy V.E t l x i).bI = .none∧∃ u,(Instr.indexAt t v vi).run P w = .ok u w∧aw I m L u (iy V.E t l x i).t:=by
 unfold iy at af ⊢
 split at af
 ·rename_i e k n hs hn
  have Yt:vi = .int k n:=by
   unfold cX at hn
   split at hn
   ·simp at hn;obtain⟨rfl,rfl⟩:=hn;have:=dp hi;cases this;rfl
   cases hn
  subst Yt
  have hu:=uo hE hs
  have key:∀ (a:Addr) (len cap:Nat),0≤n→n < len→∀ z,(V.E e).map TI.size=some z→(Instr.indexAt t (.slice (some a) len cap) (.int k n)).run P w = .ok (.pointer (some (a.add (n.toNat*z)))) w:=by
   intro a len cap h0 h1 z hz
   cases oB:V.E e with
   | none=>simp[oB] at hz
   | some ie=>
    simp[oB] at hz
    simp[Instr.indexAt,run_underlying hu,asIntOf,h0,h1,vq hE oB,hz]
  have cC:∀ {size:Nat},size=bw V.E e∧0 < size→(V.E e).map TI.size=some size:=by
   intro size aS
   unfold bw at aS
   cases oB:V.E e with
   | none=>simp[oB] at aS;omega
   | some ie=>simp[oB] at aS;simp[aS.1]
  split at af
  ·rename_i size els
   split at af
   ·rename_i aS
    simp only[if_pos aS]
    obtain⟨h0,h1⟩:=af
    have:=dp hx
    generalize hD:D.slice size els=dd at this
    cases this<;>first | (cases hD;done) | skip
    ·injection hD with hD1 Xp;subst Xp;simp at h1;omega
    rename_i b off len c Dn els' val q1 q2 q3 q4 q5 q6
    injection hD with hD1 Xp;subst hD1;subst Xp
    refine⟨trivial,_,key _ len c h0 (by omega) size (cC aS),?_⟩
    rw[Addr.add_mid]
    have:=aw.fy (I:=I) (m:=m) (l:=L) b off size els n.toNat 0 val (by omega) q4 (fun j hj=>q5 j (by rw[←q1];exact hj)) q6
    simpa using this
   exact af.elim
  ·rename_i id
   have go:∀ e' size els,l[id]?=some (.row e' size els)∨l[id]?=some (.cF e' size els)→size=bw V.E e∧0 < size→0≤n∧n < els.length →
     ∃ u,(Instr.indexAt t v (.int k n)).run P w = .ok u w∧aw I m L u (.dH id n.toNat 0):=by
    intro e' size els ho aS ⟨h0,h1⟩
    have cv:L[id]?=some (.row e' size els)∨L[id]?=some (.cF e' size els):=by rcases ho with ho | ho;exact .inl (hc.get ho);exact .inr (hc.get ho)
    have oF:∃ A n' c,v = .slice A n' c∧m id=v:=by
     cases hx with
     | row A n' c _ q1 q2=>exact⟨A,n',c,rfl,q2 (by unfold isRow;rcases cv with h | h<;>simp[h,AO.isRow])⟩
    obtain⟨A,n',c,rfl,hm⟩:=oF
    have cZ:∃ xs,w.ownsRow w0.heap.size e' size (m id) els.length xs:=by
     rcases cv with h | h
     ·obtain⟨xs,k1,_⟩:=aq.obj id _ h;exact⟨xs,k1⟩
     obtain⟨xs,k1,_⟩:=aq.obj id _ h;exact⟨xs,k1⟩
    obtain⟨xs,k1⟩:=cZ
    rcases k1.2 with ⟨_,q⟩ | ⟨g,cap,cur,q,_⟩
    ·simp[q] at h1;omega
    have q':=hm.symm.trans q
    injection q' with q1 q2 q3
    subst q1;subst q2;subst q3
    refine⟨_,key _ _ _ h0 h1 size (cC aS),.dH _ id _ 0 ?_ fun e1 s1 afE hl=>⟨g,els.length,_,q,?_⟩⟩
    ·rcases cv with h | h<;>exact(List.getElem?_eq_some_iff.1 h).1
    have:s1=size:=by rcases cv with h | h<;>rcases hl with hl | hl<;>rw[h] at hl<;>cases hl<;>rfl
    subst this
    rw[Addr.add_mid];simp
   split at af
   ·rename_i e' size els ho
    split at af
    ·rename_i aS
     simp only[if_pos aS]
     exact⟨trivial,go e' size els (.inl ho) aS af⟩
    exact af.elim
   ·rename_i e' size els ho
    split at af
    ·rename_i aS
     simp only[if_pos aS]
     exact⟨trivial,go e' size els (.inr ho) aS af⟩
    exact af.elim
   exact af.elim
  exact af.elim
 ·rename_i len e k n hs hn
  have Yt:vi = .int k n:=by
   unfold cX at hn
   split at hn
   ·simp at hn;obtain⟨rfl,rfl⟩:=hn;have:=dp hi;cases this;rfl
   cases hn
  subst Yt
  have hu:=UP hE hs
  split at af
  ·rename_i size els q off
   split at af
   ·rename_i he
    simp only[if_pos he]
    obtain⟨h0,h1⟩:=af
    obtain⟨ie,oB⟩:=Option.isSome_iff_exists.1 he
    cases hx with
    | fy b o _ _ _ _ val q1 q2 q3 q4=>
     refine⟨trivial,.pointer (some ⟨b,o+q*size+(off+n.toNat*bw V.E e),none⟩),?_,.fy b o size els q _ val q1 q2 q3 q4⟩
     have hz:bw V.E e=ie.size:=by simp[bw,oB]
     simp[Instr.indexAt,Instr.sureAddr,run_underlying hu,asIntOf,h0,h1,vq hE oB,hz,Addr.add_mid,Nat.add_assoc]
   exact af.elim
  exact af.elim
 exact af.elim
end
end Go.an
namespace Go.an
open Go Go.RowKit
variable [ck]
theorem V3 {size:Nat} (els:List D) (hs:∀ d∈els,d.cells.length=size) (k:Nat):flat (els.drop k)=(flat els).drop (k*size):=by
 induction els generalizing k with
 | nil=>simp[flat]
 | cons e els ih=>
  have he:=hs e (by simp)
  rcases k with _ | k
  ·simp
  simp only[List.drop_succ_cons]
  rw[ih (fun d hd=>hs d (by simp[hd])) k]
  simp only[flat,List.flatMap_cons]
  rw[show(k+1)*size=e.cells.length+k*size by rw[he,Nat.add_mul];omega,←List.drop_drop,List.drop_left]
theorem Qu {size:Nat} (els:List D) (hs:∀ d∈els,d.cells.length=size) (k:Nat):flat (els.take k)=(flat els).take (k*size):=by
 induction els generalizing k with
 | nil=>simp[flat]
 | cons e els ih=>
  have he:=hs e (by simp)
  rcases k with _ | k
  ·simp[flat]
  simp only[List.take_succ_cons]
  have:=ih (fun d hd=>hs d (by simp[hd])) k
  simp only[flat,List.flatMap_cons] at this ⊢
  rw[show(k+1)*size=e.cells.length+k*size by rw[he,Nat.add_mul];omega,List.take_length_add_append,this]
theorem K6 (a b:List D):flat (a++b)=flat a++flat b:=by simp[flat]
section
variable {P:Program} {V:Env} {w0 w:World} {I0 I:aC} {m:Nat→Value} {l L:List AO} {nid:Nat} {o:Oper} {ρ:Operand→Value} {ρT:Operand→T}
theorem akI {A:Option Addr} {n c lo hi size:Nat} {els:List D} (h:Rd I (.slice A n c) (.slice size els)) (h1:lo≤hi) (h2:hi≤els.length) :
  n=els.length∧n≤c∧Rd I (.slice (if c=lo then A else A.map (·.add (lo*size))) (hi - lo) (c - lo)) (.slice size ((els.take hi).drop lo)):=by
 cases h with
 | uj A c size hc=>
  have:hi=0:=by simpa using h2
  subst this
  have:lo=0:=by omega
  subst this
  refine⟨rfl,Nat.zero_le _,?_⟩
  simpa using Rd.uj (I:=I) _ c size hc
 | slice b off n c size els val q1 q2 q3 q4 q5 q6=>
  refine⟨q1.symm,q2,?_⟩
  by_cases he:lo=hi
  ·subst he
   have:(els.take lo).drop lo=[]:=by simp
   rw[this,Nat.sub_self]
   exact .uj _ _ _ (by omega)
  have ba:c≠lo:=by omega
  rw[if_neg ba]
  simp only[Option.map_some,Addr.add_mid]
  have hs:∀ d∈els,d.cells.length=size:=fun d hd=>(q4 d hd).1
  refine .slice b (off+lo*size) (hi - lo) (c - lo) size _ (fun k=>val (lo*size+k)) (by simp;omega) (by omega) (by omega) (fun d hd=>q4 d (List.mem_of_mem_take (List.mem_of_mem_drop hd))) (fun k hk=>?_) (fun k x hx=>?_)
  ·rw[Nat.add_assoc]
   apply q5
   have:lo*size+(hi - lo)*size=hi*size:=by rw[←Nat.add_mul];congr 1;omega
   have:hi*size≤n*size:=Nat.mul_le_mul_right _ (by omega)
   omega
  rw[V3 _ (fun d hd=>hs d (List.mem_of_mem_take hd)),Qu _ hs,List.getElem?_drop,List.getElem?_take] at hx
  split at hx
  ·exact q6 _ x hx
  cases hx
theorem alf (hE:cP P V.E) {t e:TypeId} {sz bt:Nat} {z:List D} (hs:V.E t=some ⟨sz,bt,z,.slice e⟩) {v:Value} {x:T} {lo hi:Option Operand} (hx:aw I m L v x)
  (oD:∀ a,lo=some a→aw I m L (ρ a) (ρT a)) (yr:∀ a,hi=some a→aw I m L (ρ a) (ρT a)) (aS:∀ size els,x = .d (.slice size els)→size=bw V.E e∧(V.E e).isSome=true) (af:(gv x (lo.map ρT) (hi.map ρT)).ob) :
  (gv x (lo.map ρT) (hi.map ρT)).bI = .none∧∃ u,(Instr.sliceAt t v (lo.map ρ) (hi.map ρ) none).run P w = .ok u w∧aw I m L u (gv x (lo.map ρT) (hi.map ρT)).t:=by
 have hu:=uo hE hs
 have dm:P.underlying t=some (.slice (P.elem t)):=by simp[Program.elem,hu]
 have he:P.elem t=e:=by simp[Program.elem,hu]
 have hint:∀ {a:T} {k:IntKind} {n:Int} {v:Value},cX a=some (k,n)→aw I m L v a→v = .int k n:=by
  intro a k n v hn hr
  unfold cX at hn
  split at hn
  ·simp at hn;obtain⟨rfl,rfl⟩:=hn;have:=dp hr;cases this;rfl
  cases hn
 unfold gv at af ⊢
 split at af
 ·rename_i size els
  obtain⟨qv,E2⟩:=aS size els rfl
  have hd:=dp hx
  obtain⟨A,n,c,rfl⟩:∃ A n c,v = .slice A n c:=by cases hd<;>exact⟨_,_,_,rfl⟩
  obtain⟨ie,oB⟩:=Option.isSome_iff_exists.1 E2
  have YF:ie.size=size:=by rw[qv];simp[bw,oB]
  have yA:(sizeOf (P.elem t)).run P w = .ok size w:=by rw[he,vq hE oB,YF]
  have j7:∀ a b,(Instr.sliceAt t (.slice A n c) a b none).run P w=(Instr.slice t (.slice A n c) a b none).run P w:=fun a b=>run_sliceAt_slice w t _ a b none dm
  have fin:∀ lo hi:Nat,lo≤hi→hi≤els.length→aw I m L (sliced A lo hi c size) (.d (.slice size ((els.take hi).drop lo))):=by
   intro lo hi h1 h2
   obtain⟨_,_,h3⟩:=akI hd h1 h2
   refine .d _ _ ?_
   simpa [sliced] using h3
  obtain⟨uV,gE,_⟩:=akI hd (Nat.zero_le els.length) (Nat.le_refl _)
  cases lo with
  | none=>
   cases hi with
   | none=>
    simp only[Option.map_none] at af ⊢
    refine⟨rfl,_,by rw[j7,run_slice_all w t A n c dm,yA];rfl,?_⟩
    have:=fin 0 els.length (Nat.zero_le _) (Nat.le_refl _)
    rw[uV]
    simpa [R.ok] using this
   | some b=>
    simp only[Option.map_none,Option.map_some] at af ⊢
    split at af
    ·rename_i k h hb
     have hv:=hint hb (yr b rfl)
     simp only
     refine⟨trivial,_,by rw[j7,hv,run_slice_h w t A n c dm _ _ af.1 (by omega),yA];rfl,?_⟩
     have:=fin 0 h.toNat (Nat.zero_le _) (by omega)
     simpa using this
    exact af.elim
  | some a=>
   cases hi with
   | none=>
    simp only[Option.map_none,Option.map_some] at af ⊢
    split at af
    ·rename_i k h ha
     have hv:=hint ha (oD a rfl)
     simp only
     refine⟨trivial,_,by rw[j7,hv,run_slice_l w t A n c dm _ _ af.1 (by omega),yA];rfl,?_⟩
     have:=fin h.toNat els.length (by omega) (Nat.le_refl _)
     rw[uV]
     simpa using this
    exact af.elim
   | some b=>
    simp only[Option.map_some] at af ⊢
    split at af
    ·rename_i k g k' h ha hb
     have hv:=hint ha (oD a rfl)
     have dW:=hint hb (yr b rfl)
     simp only
     refine⟨trivial,_,by rw[j7,hv,dW,run_slice_lh w t A n c dm _ _ _ _ af.1 af.2.1 (by omega),yA];rfl,?_⟩
     exact fin g.toNat h.toNat (by omega) (by omega)
    exact af.elim
 exact af.elim
end
end Go.an
namespace Go.an
open Go Go.RowKit
variable [ck]
section
variable {P:Program} {V:Env} {w0 w:World} {I0 I:aC} {m:Nat→Value} {l L:List AO}
theorem V5 {size:Nat}:∀ (els:List D) (k:Nat) (x:D),(∀ d∈els,d.cells.length=size)→k < els.length→flat (els.set k x)=(flat els).take (k*size)++x.cells++(flat els).drop (k*size+size)
 | [],k,x,_,hk=>by simp at hk
 | d::els,0,x,hs,_=>by
  have hd:=hs d (by simp)
  simp[flat,←hd,List.drop_append]
 | d::els,k+1,x,hs,hk=>by
  have hd:=hs d (by simp)
  have ih:=V5 els k x (fun y hy=>hs y (by simp[hy])) (by simpa using hk)
  have e1:(k+1)*size=d.cells.length+k*size:=by rw[hd,Nat.succ_mul,Nat.add_comm]
  have e2:flat (d::els)=d.cells++flat els:=by simp[flat]
  have e3:flat (d::els.set k x)=d.cells++flat (els.set k x):=by simp[flat]
  rw[List.set_cons_succ,e3,ih,e2,e1,List.take_append,List.drop_append]
  simp[List.take_of_length_le,Nat.add_sub_cancel_left,List.append_assoc,show d.cells.length+k*size+size - d.cells.length=k*size+size by omega,List.drop_of_length_le (show d.cells.length≤d.cells.length+k*size+size by omega)]
theorem UI {α:Type} (A V:List α) (p s N:Nat) (h1:p+s≤N) (h2:N≤A.length) (hv:V.length=s):(A.take p++V++A.drop (p+s)).take N=(A.take N).take p++V++(A.take N).drop (p+s):=by
 apply List.ext_getElem?
 intro i
 simp only[List.getElem?_take,List.getElem?_append,List.length_append,List.length_take,List.getElem?_drop,hv,Nat.min_eq_left (show p≤A.length by omega),Nat.min_eq_left h2,Nat.min_eq_left (show p≤N by omega)]
 by_cases a:i < N
 ·by_cases b:i < p
  ·simp[a,b,show i < p+s by omega]
  by_cases c:i < p+s
  ·simp[a,b,c]
  simp[a,b,c,show p+s+(i - (p+s)) < N by omega]
 simp[a,show ¬ i < p by omega,show ¬ i < p+s by omega,show ¬ p+s+(i - (p+s)) < N by omega]
theorem aI.OO (aq:aI w0 I0 w I m l) {id b e size n c:Nat} {els els':List D} {cur new:Array Value} {xs:List Value} (ho:l[id]?=some (.row e size els)) (hm:m id = .slice (some ⟨b,0,none⟩) n c)
  (hw:w.heap[b]?=some (.cells cur e (0,0))) (ja:(w.setRow b new).ownsRow w0.heap.size e size (.slice (some ⟨b,0,none⟩) n c) els'.length xs)
  (hs:∀ d∈els',d.cells.length=size∧∀ x∈d.cells,x.one=true) (dg:∀ (j:Nat) x y,xs[j]?=some x→(flat els')[j]?=some y→Rd I x y) :
  Le I m l I m (l.set id (.row e size els'))∧aI w0 I0 (w.setRow b new) I m (l.set id (.row e size els')):=by
 obtain⟨xs0,k1,k2,k3,k4⟩:=aq.obj id _ ho
 have hY:id < l.length:=(List.getElem?_eq_some_iff.1 ho).1
 have ca:I.gp b:=k4 b (by rw[hm];rfl)
 have qZ:w0.heap.size≤b:=((aq.obj id _ ho).lt (by simp) (by rw[hm];rfl)).2
 have hle:Le I m l I m (l.set id (.row e size els')):=by
  refine⟨.refl I,by simp,fun k _ hk=>⟨(xt (o':= .row e size els') ho rfl k).trans hk,rfl⟩,fun k _ hk=>⟨(xr (o':= .row e size els') ho rfl k).symm.trans hk,rfl⟩,fun k e' Dn aoq hk hh=>?_⟩
  by_cases gP:k=id
  ·subst gP;rw[List.getElem?_set,if_pos rfl,if_pos hY] at hh
   rcases hh with hh | hh
   ·injection hh with hh;injection hh with h1 h2 h3;subst h1;subst h2;exact⟨els,.inl ho⟩
   cases hh
  rw[List.getElem?_set,if_neg (Ne.symm gP)] at hh;exact⟨aoq,hh⟩
 refine⟨hle,⟨aq.below.trans ⟨rfl,rfl,rfl,by simp[World.setRow],fun k hk=>setRow_other w b _ new (by omega),fun _=>Nat.le_refl _⟩,⟨fun b' o u hc=>?_,fun b' es hc=>?_,fun b' hd=>(setRow_other w b _ new (fun e=>by subst e;exact aq.sat.yO hw (by simp) hd)).trans (aq.sat.df b' hd),aq.sat.dS⟩,aq.ext,fun j o hj=>?_,fun i j b' cj hi hj cY cT=>?_⟩⟩
 ·have ba:b'≠b:=by rintro rfl;rw[ca.1] at hc;cases hc
  exact(World.cell?_of_block (w:=w) (a:=⟨b',o,none⟩) (setRow_other w b _ new ba)).trans (aq.sat.cell b' o u hc)
 ·have ba:b'≠b:=by rintro rfl;rw[ca.2] at hc;cases hc
  have hh:=aq.sat.mp b' es hc
  exact iT.to (setRow_other w b _ new ba) hh
 ·by_cases ec:j=id
  ·subst ec
   rw[List.getElem?_set,if_pos rfl,if_pos hY] at hj
   injection hj with hj;subst hj
   rw[hm]
   exact⟨xs,ja,hs,dg,fun b' bP=>by injection bP with bP;subst bP;exact ca⟩
  rw[List.getElem?_set,if_neg (Ne.symm ec)] at hj
  by_cases hd:o = .dead
  ·subst hd;trivial
  refine(aq.obj j o hj).pR hle (fun b' bP=>setRow_other w b _ new ?_) (fun _ _=>⟨rfl,rfl⟩)
  rintro rfl
  exact aq.sep j id b' ec (bZ.2 ⟨o,hj,hd⟩) (bZ.2 ⟨_,ho,by simp⟩) bP (by rw[hm];rfl)
 refine aq.sep i j b' cj ?_ ?_ cY cT
 ·unfold alive at hi ⊢;rwa [xt (o':= .row e size els') ho rfl,xr (o':= .row e size els') ho rfl] at hi
 unfold alive at hj ⊢;rwa [xt (o':= .row e size els') ho rfl,xr (o':= .row e size els') ho rfl] at hj
theorem azF (hE:cP P V.E) (aq:aI w0 I0 w I m l) {id k:Nat} {ty e size:Nat} {els:List D} {x:D} {v:Value} {a:Addr} (ho:l[id]?=some (.row e size els)) (ha:aw I m l (.pointer (some a)) (.dH id k 0))
  (hx:Rd I v x) (hc:x.cells.length=size) (h1:x.cells.all D.one=true) (hk:k < els.length) (hn:x.cells.length=bw V.E ty) (cC:0 < x.cells.length) :
  ∃ w',(Instr.storeAt ty (.pointer (some a)) v).run P w = .ok () w'∧Le I m l I m (l.set id (.row e size (els.set k x)))∧aI w0 I0 w' I m (l.set id (.row e size (els.set k x))):=by
 obtain⟨b,n,c,hm,AY⟩:∃ b n c,m id = .slice (some ⟨b,0,none⟩) n c∧a=⟨b,k*size+0,none⟩:=by
  cases ha with
  | dH _ _ _ _ q1 q2=>exact q2 e size els (.inl ho)
 subst AY
 obtain⟨xs,k1,k2,k3,k4⟩:=aq.obj id _ ho
 rw[hm] at k1
 obtain⟨cw,tX⟩:=k1
 rcases tX with ⟨hv,_⟩ | ⟨g,cap,cur,hv,hb,hg,gE,rY,eW,jc⟩
 ·cases hv
 injection hv with jd HZ yC
 injection jd with jd;injection jd with jd;subst jd;subst HZ;subst yC
 have ht:∀ ds,x ≠ .bn ds:=fun ds e=>by subst e;simp[D.cells,D.one] at h1
 obtain⟨q1,q2,q3⟩:=hx.cells ht
 have mn:∀ u∈v.cells.toList,u.oneCell'=true:=by
  intro u hu
  obtain⟨i,hi,rfl⟩:=List.mem_iff_getElem.1 hu
  have gi:i < x.cells.length:=by simp at hi;omega
  exact(q3 i _ x.cells[i] (by rw[←Array.getElem?_toList];exact List.getElem?_eq_getElem hi) (List.getElem?_eq_getElem gi)).one (q2 _ (List.getElem_mem gi))
 have v7:v.cells.toList.length=size:=by simp[q1,hc]
 have hmul:k*size+size≤els.length*size:=by
  have:(k+1)*size≤els.length*size:=Nat.mul_le_mul_right _ hk
  rw[Nat.succ_mul] at this;exact this
 have L0:els.length*size≤cur.size:=by rw[eW];exact Nat.mul_le_mul_right _ gE
 have qv:(sizeOf ty).run P w = .ok v.cells.size w:=by
  cases hi:V.E ty with
  | none=>simp only[bw,hi,Option.map_none,Option.getD_none] at hn;omega
  | some i=>
   rw[vq hE hi w]
   simp only[bw,hi,Option.map_some,Option.getD_some] at hn
   congr 1;omega
 have gQ:=run_storeCells_at P b (k*size) e v.cells.toList 0 cur w hg (by rw[v7];omega) mn
 refine⟨_,by simp only[Instr.storeAt,Instr.sureAddr,Sem.run_bind,Sem.run_pure,Result.andThen_ok,storeVar,qv,ne_eq,not_true_eq_false,if_false,Nat.add_zero];exact gQ,?_⟩
 simp only[Nat.add_zero,v7]
 generalize fA:(cur.toList.take (k*size)++v.cells.toList++cur.toList.drop (k*size+size)).toArray=new
 have uV:new.toList=cur.toList.take (k*size)++v.cells.toList++cur.toList.drop (k*size+size):=by subst fA;simp
 have pj:new.size=cur.size:=by
  rw[←Array.length_toList,uV]
  simp only[List.length_append,List.length_take,List.length_drop,Array.length_toList,v7] at *
  omega
 have E9:new.toList.take (els.length*size)=xs.take (k*size)++v.cells.toList++xs.drop (k*size+size):=by
  rw[uV,←jc]
  exact UI _ _ _ _ _ hmul (by rw[Array.length_toList];exact L0) v7
 refine aq.OO (n:=els.length) (c:=c) (cur:=cur) (xs:=xs.take (k*size)++v.cells.toList++xs.drop (k*size+size)) ho hm hg ⟨?_,.inr ⟨b,c,new,?_,hb,setRow_heap w b cur new e (0,0) hg,?_,rY,by rw[pj,eW],?_⟩⟩ ?_ ?_
 ·simp only[List.length_append,List.length_take,List.length_drop,cw,v7,List.length_set];omega
 ·simp
 ·simpa using gE
 ·rw[List.length_set];exact E9
 ·intro d hd
  rcases List.mem_or_eq_of_mem_set hd with hd | rfl
  ·exact k2 d hd
  exact⟨hc,q2⟩
 intro j u y hu hy
 rw[V5 els k x (fun d hd=>(k2 d hd).1) hk] at hy
 have bS:(flat els).length=els.length*size:=ql els (fun d hd=>(k2 d hd).1)
 rw[List.append_assoc,List.getElem?_append] at hu hy
 have l1:(xs.take (k*size)).length=k*size:=by rw[List.length_take];omega
 have l2:((flat els).take (k*size)).length=k*size:=by rw[List.length_take];omega
 rw[l1] at hu;rw[l2] at hy
 by_cases hj:j < k*size
 ·rw[if_pos hj] at hu hy
  rw[List.getElem?_take,if_pos hj] at hu hy
  exact k3 j u y hu hy
 rw[if_neg hj] at hu hy
 rw[List.getElem?_append] at hu hy
 rw[v7] at hu;rw[hc] at hy
 by_cases ES:j - k*size < size
 ·rw[if_pos ES] at hu hy
  exact q3 _ u y (by simpa using hu) hy
 rw[if_neg ES] at hu hy
 rw[List.getElem?_drop] at hu hy
 exact k3 _ u y hu hy
theorem aoS {size:Nat} {els:List D} (hs:∀ d∈els,d.cells.length=size) {k off:Nat} {d:D} (hk:els[k]?=some d) {X:List D} (ho:off+X.length≤size) :
  (flat els).take (k*size)++(d.cells.take off++X++d.cells.drop (off+X.length))++(flat els).drop (k*size+size)=(flat els).take (k*size+off)++X++(flat els).drop (k*size+(off+X.length)):=by
 have hd:=hs d (List.mem_of_getElem? hk)
 obtain⟨js,rfl⟩:=List.getElem?_eq_some_iff.1 hk
 have e:flat els=flat (els.take k)++(els[k].cells++flat (els.drop (k+1))):=by
  conv=>lhs;rw[←List.take_append_drop k els]
  unfold flat
  rw[List.flatMap_append,List.drop_eq_getElem_cons js,List.flatMap_cons]
 have h1:(flat (els.take k)).length=k*size:=by rw[ql (els.take k) (fun d hd=>hs d (List.mem_of_mem_take hd)),List.length_take];congr 1;omega
 rw[e]
 have t1:(flat (els.take k)++(els[k].cells++flat (els.drop (k+1)))).take (k*size)=flat (els.take k):=by rw[←h1];simp
 have t2:(flat (els.take k)++(els[k].cells++flat (els.drop (k+1)))).drop (k*size+size)=flat (els.drop (k+1)):=by rw[←h1,←hd];simp
 have t3:(flat (els.take k)++(els[k].cells++flat (els.drop (k+1)))).take (k*size+off)=flat (els.take k)++els[k].cells.take off:=by
  rw[←h1,List.take_append,List.take_of_length_le (by omega),Nat.add_sub_cancel_left,List.take_append_of_le_length (by omega)]
 have t4:(flat (els.take k)++(els[k].cells++flat (els.drop (k+1)))).drop (k*size+(off+X.length))=els[k].cells.drop (off+X.length)++flat (els.drop (k+1)):=by
  rw[←h1,List.drop_append,List.drop_eq_nil_of_le (by omega),Nat.add_sub_cancel_left,List.drop_append_of_le_length (by omega),List.nil_append]
 rw[t1,t2,t3,t4]
 simp
theorem azE (hE:cP P V.E) (aq:aI w0 I0 w I m l) {id k off:Nat} {ty e size:Nat} {els cs:List D} {x:D} {v:Value} {a:Addr} (ho:l[id]?=some (.row e size els)) (ha:aw I m l (.pointer (some a)) (.dH id k off))
  (hx:Rd I v x) (qY:els[k]?=some (.agg cs)) (Rh:off+x.cells.length≤size) (h1:x.cells.all D.one=true) (hk:k < els.length) (hn:x.cells.length=bw V.E ty) (cC:0 < x.cells.length) :
  ∃ w',(Instr.storeAt ty (.pointer (some a)) v).run P w = .ok () w'∧Le I m l I m (l.set id (.row e size (els.set k (.agg (setAt cs off x.cells)))))∧aI w0 I0 w' I m (l.set id (.row e size (els.set k (.agg (setAt cs off x.cells))))):=by
 obtain⟨b,n,c,hm,AY⟩:∃ b n c,m id = .slice (some ⟨b,0,none⟩) n c∧a=⟨b,k*size+off,none⟩:=by
  cases ha with
  | dH _ _ _ _ q1 q2=>exact q2 e size els (.inl ho)
 subst AY
 obtain⟨xs,k1,k2,k3,k4⟩:=aq.obj id _ ho
 rw[hm] at k1
 obtain⟨cw,tX⟩:=k1
 rcases tX with ⟨hv,_⟩ | ⟨g,cap,cur,hv,hb,hg,gE,rY,eW,jc⟩
 ·cases hv
 injection hv with jd HZ yC
 injection jd with jd;injection jd with jd;subst jd;subst HZ;subst yC
 have ht:∀ ds,x ≠ .bn ds:=fun ds e=>by subst e;simp[D.cells,D.one] at h1
 obtain⟨q1,q2,q3⟩:=hx.cells ht
 have mn:∀ u∈v.cells.toList,u.oneCell'=true:=by
  intro u hu
  obtain⟨i,hi,rfl⟩:=List.mem_iff_getElem.1 hu
  have gi:i < x.cells.length:=by simp at hi;omega
  exact(q3 i _ x.cells[i] (by rw[←Array.getElem?_toList];exact List.getElem?_eq_getElem hi) (List.getElem?_eq_getElem gi)).one (q2 _ (List.getElem_mem gi))
 obtain⟨c0,QY⟩:∃ c0,c0=x.cells.length:=⟨_,rfl⟩
 have v7:v.cells.toList.length=c0:=by simp[q1,QY]
 have hmul:k*size+size≤els.length*size:=by
  have:(k+1)*size≤els.length*size:=Nat.mul_le_mul_right _ hk
  rw[Nat.succ_mul] at this;exact this
 have L0:els.length*size≤cur.size:=by rw[eW];exact Nat.mul_le_mul_right _ gE
 have qv:(sizeOf ty).run P w = .ok v.cells.size w:=by
  cases hi:V.E ty with
  | none=>simp only[bw,hi,Option.map_none,Option.getD_none] at hn;omega
  | some i=>
   rw[vq hE hi w]
   simp only[bw,hi,Option.map_some,Option.getD_some] at hn
   congr 1;omega
 have gQ:=run_storeCells_at P b (k*size+off) e v.cells.toList 0 cur w hg (by rw[v7];omega) mn
 refine⟨_,by simp only[Instr.storeAt,Instr.sureAddr,Sem.run_bind,Sem.run_pure,Result.andThen_ok,storeVar,qv,ne_eq,not_true_eq_false,if_false,Nat.add_zero];exact gQ,?_⟩
 simp only[Nat.add_zero,v7]
 generalize fA:(cur.toList.take (k*size+off)++v.cells.toList++cur.toList.drop (k*size+off+c0)).toArray=new
 have uV:new.toList=cur.toList.take (k*size+off)++v.cells.toList++cur.toList.drop (k*size+off+c0):=by subst fA;simp
 have pj:new.size=cur.size:=by
  rw[←Array.length_toList,uV]
  simp only[List.length_append,List.length_take,List.length_drop,Array.length_toList,v7] at *
  omega
 have E9:new.toList.take (els.length*size)=xs.take (k*size+off)++v.cells.toList++xs.drop (k*size+off+c0):=by
  rw[uV,←jc]
  exact UI _ _ _ _ _ (by omega) (by rw[Array.length_toList];exact L0) v7
 have hlen:∀ d∈els,d.cells.length=size:=fun d hd=>(k2 d hd).1
 have aD9:cs.length=size:=hlen (.agg cs) (List.mem_of_getElem? qY)
 have uZ:(setAt cs off x.cells).length=size:=by unfold setAt;simp;omega
 refine aq.OO (n:=els.length) (c:=c) (cur:=cur) (xs:=xs.take (k*size+off)++v.cells.toList++xs.drop (k*size+off+c0)) ho hm hg ⟨?_,.inr ⟨b,c,new,?_,hb,setRow_heap w b cur new e (0,0) hg,?_,rY,by rw[pj,eW],?_⟩⟩ ?_ ?_
 ·simp only[List.length_append,List.length_take,List.length_drop,cw,v7,List.length_set];omega
 ·simp
 ·simpa using gE
 ·rw[List.length_set];exact E9
 ·intro d hd
  rcases List.mem_or_eq_of_mem_set hd with hd | rfl
  ·exact k2 d hd
  refine⟨uZ,fun y hy=>?_⟩
  have hy:y∈setAt cs off x.cells:=hy
  unfold setAt at hy
  rcases List.mem_append.1 hy with hy | hy
  ·rcases List.mem_append.1 hy with hy | hy
   ·exact(k2 _ (List.mem_of_getElem? qY)).2 y (List.mem_of_mem_take hy)
   exact q2 y hy
  exact(k2 _ (List.mem_of_getElem? qY)).2 y (List.mem_of_mem_drop hy)
 intro j u y hu hy
 rw[V5 els k _ hlen hk] at hy
 have hy:((flat els).take (k*size)++(cs.take off++x.cells++cs.drop (off+x.cells.length))++(flat els).drop (k*size+size))[j]?=some y:=by
  simpa [D.cells,setAt] using hy
 rw[show cs=(D.agg cs).cells from rfl,aoS hlen qY Rh] at hy
 rw[Nat.add_assoc] at hu
 rw[←QY] at hy
 have bS:(flat els).length=els.length*size:=ql els hlen
 rw[List.append_assoc,List.getElem?_append] at hu hy
 have l1:(xs.take (k*size+off)).length=k*size+off:=by rw[List.length_take];omega
 have l2:((flat els).take (k*size+off)).length=k*size+off:=by rw[List.length_take];omega
 rw[l1] at hu;rw[l2] at hy
 by_cases hj:j < k*size+off
 ·rw[if_pos hj] at hu hy
  rw[List.getElem?_take,if_pos hj] at hu hy
  exact k3 j u y hu hy
 rw[if_neg hj] at hu hy
 rw[List.getElem?_append] at hu hy
 rw[v7] at hu;rw[←QY] at hy
 by_cases ES:j - (k*size+off) < c0
 ·rw[if_pos ES] at hu hy
  exact q3 _ u y (by simpa using hu) hy
 rw[if_neg ES] at hu hy
 rw[List.getElem?_drop] at hu hy
 exact k3 _ u y hu hy
end
end Go.an
namespace Go.an
open Go Go.RowKit
variable [ck]
def Cells (I:aC) (vs:List Value) (ds:List D):Prop:=vs.length=ds.length∧(∀ d∈ds,d.one=true)∧∀ (i:Nat) v d,vs[i]?=some v→ds[i]?=some d→Rd I v d
def Au (I:aC) (m:Nat→Value) (L:List AO) (vs:List Value) (ts:List T):Prop:=vs.length=ts.length∧(∀ v∈vs,v.oneCell'=true)∧∀ (i:Nat) v t,vs[i]?=some v→ts[i]?=some t→aw I m L v t
theorem Au.set {I:aC} {m:Nat→Value} {L:List AO} {vs xs:List Value} {ds ys:List T} {off:Nat} (h:Au I m L vs ds) (k:Au I m L xs ys) (hle:off+ys.length≤ds.length) :
  Au I m L (vs.take off++xs++vs.drop (off+xs.length)) (setAt ds off ys):=by
 obtain⟨h1,h2,h3⟩:=h
 obtain⟨k1,k2,k3⟩:=k
 refine⟨by simp[setAt];omega,fun d hd=>?_,fun i v d hv hd=>?_⟩
 ·simp only[List.mem_append] at hd
  rcases hd with (hd | hd) | hd
  ·exact h2 d (List.mem_of_mem_take hd)
  ·exact k2 d hd
  exact h2 d (List.mem_of_mem_drop hd)
 have l1:(vs.take off).length=off:=by simp;omega
 have l2:(ds.take off).length=off:=by simp;omega
 rw[List.append_assoc,List.getElem?_append,l1] at hv
 rw[setAt,List.append_assoc,List.getElem?_append,l2] at hd
 by_cases hi:i < off
 ·rw[if_pos hi,List.getElem?_take,if_pos hi] at hv hd
  exact h3 i v d hv hd
 rw[if_neg hi,List.getElem?_append] at hv hd
 rw[k1] at hv
 by_cases LS:i - off < ys.length
 ·rw[if_pos LS] at hv hd;exact k3 _ v d hv hd
 rw[if_neg LS,List.getElem?_drop] at hv hd;exact h3 _ v d hv hd
section
variable {P:Program} {V:Env} {w0 w:World} {I0 I:aC} {m:Nat→Value} {l L:List AO} {nid:Nat} {o:Oper} {ρ:Operand→Value} {ρT:Operand→T}
theorem azz {v:Value} {d:D} (h:Rd I v d) (mn:d.cells.all D.one=true):Cells I v.cells.toList d.cells:=by
 have ht:∀ ds,d ≠ .bn ds:=fun ds e=>by subst e;simp[D.cells,D.one] at mn
 obtain⟨q1,q2,q3⟩:=h.cells ht
 exact⟨by simpa using q1,q2,fun i u x hu hx=>q3 i u x (by simpa using hu) hx⟩
theorem VV (place:Nat→Option (Nat×Nat)):∀ (parts:List (Nat×Operand)) (cells:Array Value) (ds zi:List T),Au I m L cells.toList ds→(∀ p∈parts,aw I m L (ρ p.2) (ρT p.2)) →
  gC place ds (parts.map fun p=>(p.1,ρT p.2))=some zi→∃ wV,Instr.fill place cells (parts.map fun p=>(p.1,ρ p.2))=some wV∧Au I m L wV.toList zi
 | [],cells,ds,zi,hc,_,h=>by
  simp[gC] at h;subst h
  exact⟨cells,rfl,hc⟩
 | p::parts,cells,ds,zi,hc,hr,h=>by
  simp only[List.map_cons,gC] at h
  cases hp:place p.1 with
  | none=>simp[hp] at h
  | some os=>
    obtain⟨off,size⟩:=os
    simp only[hp] at h
    split at h
    ·rename_i hle
     obtain⟨c1,c2,c3⟩:=afi (hr p (by simp)) hle.2.2
     have hcx:Au I m L (ρ p.2).cells.toList (bf (ρT p.2)):=⟨c1,c2,c3⟩
     have aS:(ρ p.2).cells.size=size:=by have:=hcx.1;simp at this;omega
     have r9:off+(ρ p.2).cells.size≤cells.size:=by have:=hc.1;simp at this;omega
     obtain⟨g1,g2⟩:=Great.foldl_set off (ρ p.2).cells.toList 0 cells
     generalize eW:((ρ p.2).cells.toList.zipIdx 0).foldl (fun cs (x:Value×Nat)=>cs.setIfInBounds (off+x.2) x.1) cells=cs at *
     have asA:cs.toList=cells.toList.take off++(ρ p.2).cells.toList++cells.toList.drop (off+(ρ p.2).cells.toList.length):=by
      apply List.ext_getElem?
      intro k
      have:=g2 k
      rw[Array.getElem?_toList,this]
      have l1:(cells.toList.take off).length=off:=by simp;omega
      rw[List.append_assoc,List.getElem?_append,l1,List.getElem?_append]
      simp only[Nat.add_zero,Array.length_toList]
      by_cases h1:k < off
      ·rw[if_neg (by omega),if_pos h1,List.getElem?_take,if_pos h1];simp
      rw[if_neg h1]
      by_cases h2:k - off < (ρ p.2).cells.size
      ·rw[if_pos (by omega),if_pos h2]
      rw[if_neg (by omega),if_neg h2,List.getElem?_drop]
      rw[show off+(ρ p.2).cells.size+(k - off - (ρ p.2).cells.size)=k by omega];simp
     obtain⟨wV,hf,iY⟩:=VV place parts cs (setAt ds off (bf (ρT p.2))) zi (by rw[asA];exact hc.set hcx (by have:=hc.1;simp at this;omega)) (fun q hq=>hr q (by simp[hq])) h
     refine⟨wV,?_,iY⟩
     simp only[List.map_cons]
     unfold Instr.fill
     simp only[hp]
     rw[if_neg (by simp[aS];omega),←hf]
     congr 1
     rw[←eW,←Array.foldl_toList,Array.toList_zipIdx]
    cases h
theorem anr (hE:cP P V.E) {t:TypeId} {sz bt:Nat} {z:List D} {ds:List T} {fs:List (Nat×TypeId)} {parts:Array (Nat×Operand)} (hs:V.E t=some ⟨sz,bt,z,.struct fs⟩) (hr:∀ p∈parts.toList,aw I m L (ρ p.2) (ρT p.2))
  (hf:gC (iN V.E fs) (z.map gb) (parts.toList.map fun p=>(p.1,ρT p.2))=some ds) (bL:∀ f∈fs,(V.E f.2).isSome=true) :
  ∃ u,(Instr.build t (parts.map fun(i,x)=>(i,ρ x))).run P w = .ok u w∧aw I m L u (gH true ds):=by
 obtain⟨gs,hu,rfl⟩:=ade hE hs
 obtain⟨x,zv,h1,h2,h3,h4,h5,h6,h7,h8⟩:=jj (hE t _ hs)
 have hc:Au I m L zv.cells.toList (z.map gb):=by
  obtain⟨k1,k2,k3⟩:=As I _ _ h5
  have k1:zv.cells.toList.length=z.length:=k1
  refine⟨by simpa using k1,fun v hv=>?_,fun i v t hv ht=>?_⟩
  ·obtain⟨j,hj,rfl⟩:=List.mem_iff_getElem.1 hv
   have gO:j < z.length:=by omega
   exact(k3 j _ _ (List.getElem?_eq_getElem hj) (List.getElem?_eq_getElem gO)).one (k2 _ (List.getElem_mem gO))
  rw[List.getElem?_map] at ht
  cases hz:z[i]? with
  | none=>simp[hz] at ht
  | some d=>simp[hz] at ht;subst ht;exact aeM (O4 h5 hv hz)
 obtain⟨wV,LK,iY⟩:=VV (ρ:=ρ) (ρT:=ρT) (m:=m) (L:=L) (iN V.E _) parts.toList zv.cells _ ds hc hr hf
 have xe:∀ HA:List Field,(∀ f∈HA.map (fun f=>(f.offset,f.type)),(V.E f.2).isSome=true)→HA.mapM (fun f=>(P.info? f.type).map fun i=>(f.offset,i.size))=some (HA.map fun f=>(f.offset,bw V.E f.type)):=by
  intro HA hg
  induction HA with
  | nil=>rfl
  | cons f HA ih=>
   obtain⟨i,hi⟩:=Option.isSome_iff_exists.1 (hg (f.offset,f.type) (by simp))
   obtain⟨x',_,k1,k2,_⟩:=jj (hE _ _ hi)
   have e1:(P.info? f.type).map (fun i=>(f.offset,i.size))=some (f.offset,bw V.E f.type):=by
    simp only at hi
    simp[k1,k2,bw,hi]
   simp only[List.mapM_cons,e1,ih (fun q hq=>hg q (by simp at hq ⊢;exact .inr hq)),List.map_cons]
   rfl
 have hb:P.built t (parts.map fun(i,x)=>(i,ρ x)).toList=some wV:=by
  unfold Program.built
  simp only[h1,hu,h4,xe gs.toList bL]
  rw[←LK]
  have e1:(parts.map fun(i,x)=>(i,ρ x)).toList=parts.toList.map fun p=>(p.1,ρ p.2):=by simp
  rw[e1]
  congr 1
  funext i
  simp only[iN,List.getElem?_toArray,List.getElem?_map,Option.map_map]
  rfl
 refine⟨_,run_build w t _ _ hb,?_⟩
 have:=aaq (I:=I) (m:=m) (L:=L) (i:=⟨wV.size,0,[],.struct []⟩) (vs:=wV.toList) (ts:=ds) iY.1 (by simp) (by simp[TD.agg]) (fun j v t hv ht=>⟨iY.2.2 j v t hv ht,iY.2.1 v (List.mem_of_getElem? hv)⟩)
 simpa [TD.agg] using this
theorem aI.known (aq:aI w0 I0 w I m L) (e:TypeId) (cs:Array Value) (size:Nat) (ds:List D) (n:Nat) (hn:ds.length=n) (hs:∀ d∈ds,d.cells.length=size∧∀ x∈d.cells,x.one=true) (hlen:cs.size=n*size) (fc:n≤maxLen)
  (dg:∀ (j:Nat) x y,cs[j]?=some x→(flat ds)[j]?=some y→Rd I x y) :
  ∃ J,Le I m L J m L∧aI w0 I0 (w.alloc (.cells cs e)) J m L∧Rd J (.slice (some ⟨w.heap.size,0,none⟩) n n) (.slice size ds):=by
 have ca:=aq.sat.gp (Nat.le_refl w.heap.size)
 let J:=I.fG w.heap.size cs.toList
 have hle:I.le J:=⟨fun b o v hc=>by
  have hb:b≠w.heap.size:=by rintro rfl;rw[ca.1 o] at hc;cases hc
  simp[J,aC.fG,hb,hc],fun _ _ h=>h,fun _ h=>h⟩
 have oW:∀ b,b≠w.heap.size→J.cell b=I.cell b:=fun b hb=>by funext o;simp[J,aC.fG,hb]
 have bX:eD (w.alloc (.cells cs e)) J:=⟨fun b o v hc=>by
  by_cases hb:b=w.heap.size
  ·subst hb
   simp only[J,aC.fG,if_true] at hc
   rw[World.cell?_alloc_new]
   cases hx:cs[o]? with
   | none=>simp[hx,ca.1 o] at hc
   | some x=>simpa [hx] using hc
  ·rw[oW b hb] at hc
   rw[World.cell?_alloc_lt w _ _ (aq.sat.lt hc)];exact aq.sat.cell b o v hc,fun b es hc=>by
  have hh:=aq.sat.mp b es hc
  exact iT.to (Below.heap_alloc w _ b (aq.sat.wi hc)) hh,fun b hd=>(Below.heap_alloc w _ b (aq.sat.tu hd)).trans (aq.sat.df b hd),fun g d h=>(aq.sat.dS g d h).mono hle⟩
 obtain⟨r1,r2⟩:=aq.call (eL.alloc (eL.refl _ _) (Nat.le_refl _) _) (.of hle (fun b hb=>oW b (by omega)) (fun _ _=>rfl)) bX
 refine⟨J,r2,r1,.slice _ 0 n n size ds (fun k=>(cs[k]?).getD undef) hn (Nat.le_refl _) fc hs (fun k hk=>?_) (fun k x hx=>?_)⟩
 ·have:cs[k]?=some (cs[k]'(by omega)):=Array.getElem?_eq_getElem (by omega)
  simp[J,aC.fG,this]
 have hk:k < n*size:=by rw[←hn,←ql ds (fun d hd=>(hs d hd).1)];exact(List.getElem?_eq_some_iff.1 hx).1
 have:cs[k]?=some (cs[k]'(by omega)):=Array.getElem?_eq_getElem (by omega)
 rw[this];exact(dg k _ x this hx).mono hle
theorem aiW:∀ (ps:List (Nat×Operand)) (ds:List D),(∀ p∈ps,aw I m L (ρ p.2) (ρT p.2))→ps.mapM (fun p=>fo (ρT p.2))=some ds→ps.length=ds.length∧∀ (i:Nat) p d,ps[i]?=some p→ds[i]?=some d→Rd I (ρ p.2) d
 | [],ds,_,h=>by simp at h;subst h;simp
 | p::ps,ds,hr,h=>by
  simp only[List.mapM_cons,Option.bind_eq_bind,Option.bind_eq_some_iff,Option.pure_def,Option.some.injEq] at h
  obtain⟨x,hx,xs,qz,rfl⟩:=h
  obtain⟨h1,h2⟩:=aiW ps xs (fun q hq=>hr q (by simp[hq])) qz
  refine⟨by simp[h1],fun i q d hq hd=>?_⟩
  rcases i with _ | i
  ·simp at hq hd;subst hq;subst hd;exact T9 (hr p (by simp)) hx
  simp at hq hd;exact h2 i q d hq hd
theorem ae8 (hE:cP P V.E) (aq:aI w0 I0 w I m L) {t e:TypeId} {sz bt:Nat} {z:List D} {len:Nat} {parts:Array (Nat×Operand)} {ds:List D} (hs:V.E t=some ⟨sz,bt,z,.slice e⟩)
  (p1:parts.toList.length=ds.length) (p2:∀ (i:Nat) p d,parts.toList[i]?=some p→ds[i]?=some d→Rd I (ρ p.2) d) (he:(V.E e).isSome=true∧0 < bw V.E e) (hlen:len≠0)
  (hc:parts.toList.map (·.1)=List.range len∧len*bw V.E e≤16777216∧ds.all (fun d=>d.cells.length == bw V.E e&&d.cells.all D.one)=true) :
  ∃ w' J,(Instr.buildSlice t len (parts.map fun(i,x)=>(i,ρ x))).run P w = .ok (.slice (some ⟨w.heap.size,0,none⟩) len len) w'∧Le I m L J m L∧aI w0 I0 w' J m L∧Rd J (.slice (some ⟨w.heap.size,0,none⟩) len len) (.slice (bw V.E e) ds):=by
 have hu:=uo hE hs
 obtain⟨yl,hc3,hc4⟩:=hc
 obtain⟨i,hi⟩:=Option.isSome_iff_exists.1 he.1
 obtain⟨x,zv,k1,k2,k3,k4,k5,k6,k7,k8⟩:=jj (hE e i hi)
 have aS:bw V.E e=i.size:=by simp[bw,hi]
 rw[aS] at hc3 hc4 ⊢
 have cC:0 < i.size:=by rw[←aS];exact he.2
 have xe:parts.toList.length=len:=by have:=congrArg List.length yl;simpa using this
 have Q1:ds.length=len:=by omega
 have bL:∀ d∈ds,d.cells.length=i.size∧∀ y∈d.cells,y.one=true:=fun d hd=>by
  have:=List.all_eq_true.1 hc4 d hd
  simp only[Bool.and_eq_true,beq_iff_eq,List.all_eq_true] at this
  exact this
 have w7:∀ (j:Nat) p d,parts.toList[j]?=some p→ds[j]?=some d→Cells I (ρ p.2).cells.toList d.cells:=fun j p d hp hd=>
  azz (p2 j p d hp hd) (List.all_eq_true.2 (bL d (List.mem_of_getElem? hd)).2)
 have atf:∀ v∈parts.toList.map (fun p=>ρ p.2),v.cells.size=i.size:=by
  intro v hv
  obtain⟨p,hp,rfl⟩:=List.mem_map.1 hv
  obtain⟨j,hj,rfl⟩:=List.mem_iff_getElem.1 hp
  have hjd:j < ds.length:=by omega
  have:=(w7 j _ _ (List.getElem?_eq_getElem hj) (List.getElem?_eq_getElem hjd)).1
  have h2:=(bL _ (List.getElem_mem hjd)).1
  rw[Array.length_toList] at this;omega
 obtain⟨r,hf,cD,L7⟩:=Great.fill_dense cC (parts.toList.map fun p=>ρ p.2) 0 ((Array.range (len*i.size)).map (zv.cells[· % zv.cells.size]!)) atf (by simp[xe])
 have atB:(parts.map fun(i,x)=>(i,ρ x)).toList=((parts.toList.map fun p=>ρ p.2).zipIdx 0).map fun x=>(x.2,x.1):=by
  apply List.ext_getElem?
  intro j
  simp only[Array.toList_map,List.getElem?_map,List.getElem?_zipIdx,Nat.zero_add,Option.map_map]
  cases hp:parts.toList[j]? with
  | none=>simp
  | some p=>
   have hj:j < len:=by rw[←xe];exact(List.getElem?_eq_some_iff.1 hp).1
   have:(parts.toList.map (·.1))[j]?=some p.1:=by rw[List.getElem?_map,hp];rfl
   rw[yl,List.getElem?_range hj] at this
   injection this with this
   simp[this]
 have dL:=run_buildSlice (P:=P) w t e len (parts.map fun(i,x)=>(i,ρ x)) r x zv hu k1 k4 (by rw[k2];omega) (by rw[k2];have:=Nat.mul_pos (Nat.pos_of_ne_zero hlen) cC;omega) (by rw[atB,k2];exact hf)
 have ahV:r.size=len*i.size:=by rw[cD];simp
 obtain⟨J,r2,r1,dg⟩:=aq.known e r i.size ds len Q1 bL ahV (by unfold maxLen;have:len≤len*i.size:=Nat.le_mul_of_pos_right _ cC;omega) (fun j u y hu hy=>by
  have ra:j < len*i.size:=by rw[←ahV];exact(Array.getElem?_eq_some_iff.1 hu).1
  rw[L7 j,if_pos (by simp[xe];exact ra)] at hu
  simp only[Nat.sub_zero,List.getElem?_map] at hu
  have hq:j / i.size < len:=Nat.div_lt_of_lt_mul (by rw[Nat.mul_comm];exact ra)
  have CQ:j % i.size < i.size:=Nat.mod_lt _ cC
  have hp:parts.toList[j / i.size]?=some (parts.toList[j / i.size]'(by omega)):=List.getElem?_eq_getElem (by omega)
  have hd:ds[j / i.size]?=some (ds[j / i.size]'(by omega)):=List.getElem?_eq_getElem (by omega)
  rw[hp] at hu
  have bS:=flat_get ds (fun d hd=>(bL d hd).1) (j / i.size) (j % i.size) _ hd CQ
  rw[Nat.mul_comm,Nat.div_add_mod] at bS
  rw[bS] at hy
  exact(w7 _ _ _ hp hd).2.2 (j % i.size) u y (by simpa using hu) hy)
 exact⟨_,J,dL,r2,r1,dg⟩
theorem aI.FC (aq:aI w0 I0 w I m l) {w':World} {e size:Nat} {els:List D} {v:Value} {row:Option Nat} {lo:List AO} (oD:lo.length=l.length) (rZ:∀ (k:Nat) a,lo[k]?=some a→a = .dead∨l[k]?=some a)
  (qx:∀ (k:Nat) a,a.isVar=true→l[k]?=some a→lo[k]?=some a)
  (hg:w.grownBy w' row) (A3:w.drawn≤w'.drawn) (yq:∀ b,row=some b→w0.heap.size≤b∧I.gp b∧∀ k,alive lo k=true→own (m k)≠some b) (asG:∀ b,row=some b→¬ I.df b) (r6:∀ b,own v=some b→w0.heap.size≤b∧I.gp b∧∀ k,alive lo k=true→own (m k)≠some b)
  {xs:List Value} (ja:w'.ownsRow w0.heap.size e size v els.length xs) (hs:∀ d∈els,d.cells.length=size∧∀ x∈d.cells,x.one=true) (dg:∀ (j:Nat) x y,xs[j]?=some x→(flat els)[j]?=some y→Rd I x y) (uZ:∃ A n c,v = .slice A n c) :
  Le I m l I (bG m l.length v) (lo++[.row e size els])∧aI w0 I0 w' I (bG m l.length v) (lo++[.row e size els])∧aw I (bG m l.length v) (lo++[.row e size els]) v (.row l.length):=by
 have cB:∀ k,k < l.length→(lo++[AO.row e size els])[k]?=lo[k]?:=fun k hk=>List.getElem?_append_left (by omega)
 have vW:(lo++[AO.row e size els])[l.length]?=some (.row e size els):=by rw[←oD];simp
 have hle:Le I m l I (bG m l.length v) (lo++[.row e size els]):=by
  refine⟨.refl I,by simp;omega,fun id aB hv=>⟨?_,eh m v (by omega)⟩,fun id aB hr=>⟨?_,eh m v (by omega)⟩,fun id e' s' els' aB hh=>?_⟩
  ·unfold isVar at hv ⊢;rw[cB id aB]
   cases ho:l[id]? with
   | none=>simp[ho] at hv
   | some o=>
    have dW:o.isVar=true:=by simpa [ho] using hv
    rw[qx id o dW ho];exact dW
  ·unfold isRow at hr ⊢;rw[cB id aB] at hr
   cases ho:lo[id]? with
   | none=>simp[ho] at hr
   | some o=>
    rcases rZ id o ho with rfl | h
    ·simp[ho,AO.isRow] at hr
    rw[h];rw[ho] at hr;exact hr
  rw[cB id aB] at hh
  rcases hh with hh | hh
  ·rcases rZ id _ hh with h | h
   ·cases h
   exact⟨els',.inl h⟩
  rcases rZ id _ hh with h | h
  ·cases h
  exact⟨els',.inr h⟩
 have Xx:∀ k a,lo[k]?=some a→a ≠ .dead→∀ b,own (m k)=some b→w'.heap[b]?=w.heap[b]?:=by
  intro k a ha hd b hb
  have AW:l[k]?=some a:=(rZ k a ha).resolve_left hd
  refine hg.block b ((aq.obj k a AW).lt hd hb).1 (fun he=>?_)
  exact(yq b he.symm).2.2 k (bZ.2 ⟨a,ha,hd⟩) hb
 refine⟨hle,⟨aq.below.trans ⟨hg.os,hg.tape,hg.output,hg.size,fun k hk=>hg.block k (by have:=aq.below.size;omega) (fun he=>by have:=(yq k he.symm).1;omega),fun _=>A3⟩,⟨fun b o u hc=>?_,fun b es hc=>?_,fun b hd=>(hg.block b (aq.sat.tu hd) (fun he=>asG b he.symm hd)).trans (aq.sat.df b hd),aq.sat.dS⟩,aq.ext,fun id o ho=>?_,fun i j b cj hi hj cY cT=>?_⟩,?_⟩
 ·have ba:some b≠row:=fun he=>by rw[(yq b he.symm).2.1.1 o] at hc;cases hc
  exact(World.cell?_of_block (w:=w) (a:=⟨b,o,none⟩) (hg.block b (aq.sat.lt hc) ba)).trans (aq.sat.cell b o u hc)
 ·have ba:some b≠row:=fun he=>by rw[(yq b he.symm).2.1.2] at hc;cases hc
  have hh:=aq.sat.mp b es hc
  exact iT.to (hg.block b (aq.sat.wi hc) ba) hh
 ·by_cases aB:id < l.length
  ·rw[cB id aB] at ho;rw[eh m v (by omega)]
   by_cases hd:o = .dead
   ·subst hd;trivial
   exact(aq.obj id o ((rZ id o ho).resolve_left hd)).pR hle (Xx id o ho hd) (fun _ _=>⟨rfl,rfl⟩)
  have:id=l.length:=by
   have:=(List.getElem?_eq_some_iff.1 ho).1;simp at this;omega
  subst this
  rw[vW] at ho;injection ho with ho;subst ho
  rw[nT]
  exact⟨xs,ja,hs,dg,fun b hb=>(r6 b hb).2.1⟩
 ·have dD:∀ k,k≠l.length→alive (lo++[AO.row e size els]) k=true→alive lo k=true∧k < l.length:=by
   intro k hk ha
   obtain⟨o,ho,hd⟩:=bZ.1 ha
   have js:k < l.length:=by have:=(List.getElem?_eq_some_iff.1 ho).1;simp at this;omega
   rw[cB k js] at ho
   exact⟨bZ.2 ⟨o,ho,hd⟩,js⟩
  by_cases h1:i=l.length
  ·subst h1;rw[nT] at cY;rw[eh m v (Ne.symm cj)] at cT
   exact(r6 b cY).2.2 j (dD j (Ne.symm cj) hj).1 cT
  by_cases h2:j=l.length
  ·subst h2;rw[nT] at cT;rw[eh m v cj] at cY
   exact(r6 b cT).2.2 i (dD i cj hi).1 cY
  rw[eh m v h1] at cY;rw[eh m v h2] at cT
  have a1:=(dD i h1 hi).1
  have a2:=(dD j h2 hj).1
  obtain⟨o1,q1,d1⟩:=bZ.1 a1
  obtain⟨o2,q2,d2⟩:=bZ.1 a2
  exact aq.sep i j b cj (bZ.2 ⟨o1,(rZ i o1 q1).resolve_left d1,d1⟩) (bZ.2 ⟨o2,(rZ j o2 q2).resolve_left d2,d2⟩) cY cT
 obtain⟨A,n,c,rfl⟩:=uZ
 exact .row A n c _ (by simp;omega) (fun _=>nT m _ _)
theorem aI.axV (aq:aI w0 I0 w I m l) {w':World} {e size:Nat} {els:List D} {v:Value} {row:Option Nat} {lo:List AO} (oD:lo.length=l.length) (rZ:∀ (k:Nat) a,lo[k]?=some a→a = .dead∨l[k]?=some a)
  (qx:∀ (k:Nat) a,a.isVar=true→l[k]?=some a→lo[k]?=some a)
  (hg:w.grownBy w' row) (A3:w.drawn≤w'.drawn) (yq:∀ b,row=some b→w0.heap.size≤b∧∀ k,alive lo k=true→own (m k)≠some b) {J:aC} (QU:I.le J) (oW:∀ b,own v≠some b→J.cell b=I.cell b∧J.mp b=I.mp b) (bX:eD w' J) (r6:∀ b,own v=some b→w0.heap.size≤b∧∀ k,alive lo k=true→own (m k)≠some b)
  (fB:rI w0.heap.size w' J (bG m l.length v) (lo++[.cF e size els]) v (.cF e size els)) (uZ:∃ A n c,v = .slice A n c) :
  Le I m l J (bG m l.length v) (lo++[.cF e size els])∧aI w0 I0 w' J (bG m l.length v) (lo++[.cF e size els])∧aw J (bG m l.length v) (lo++[.cF e size els]) v (.row l.length):=by
 have cB:∀ k,k < l.length→(lo++[AO.cF e size els])[k]?=lo[k]?:=fun k hk=>List.getElem?_append_left (by omega)
 have vW:(lo++[AO.cF e size els])[l.length]?=some (.cF e size els):=by rw[←oD];simp
 have hle:Le I m l J (bG m l.length v) (lo++[.cF e size els]):=by
  refine⟨QU,by simp;omega,fun id aB hv=>⟨?_,eh m v (by omega)⟩,fun id aB hr=>⟨?_,eh m v (by omega)⟩,fun id e' s' els' aB hh=>?_⟩
  ·unfold isVar at hv ⊢;rw[cB id aB]
   cases ho:l[id]? with
   | none=>simp[ho] at hv
   | some o=>
    have dW:o.isVar=true:=by simpa [ho] using hv
    rw[qx id o dW ho];exact dW
  ·unfold isRow at hr ⊢;rw[cB id aB] at hr
   cases ho:lo[id]? with
   | none=>simp[ho] at hr
   | some o=>
    rcases rZ id o ho with rfl | h
    ·simp[ho,AO.isRow] at hr
    rw[h];rw[ho] at hr;exact hr
  rw[cB id aB] at hh
  rcases hh with hh | hh
  ·rcases rZ id _ hh with h | h
   ·cases h
   exact⟨els',.inl h⟩
  rcases rZ id _ hh with h | h
  ·cases h
  exact⟨els',.inr h⟩
 have Xx:∀ k a,lo[k]?=some a→a ≠ .dead→∀ b,own (m k)=some b→w'.heap[b]?=w.heap[b]?:=by
  intro k a ha hd b hb
  have AW:l[k]?=some a:=(rZ k a ha).resolve_left hd
  refine hg.block b ((aq.obj k a AW).lt hd hb).1 (fun he=>?_)
  exact(yq b he.symm).2 k (bZ.2 ⟨a,ha,hd⟩) hb
 refine⟨hle,⟨aq.below.trans ⟨hg.os,hg.tape,hg.output,hg.size,fun k hk=>hg.block k (by have:=aq.below.size;omega) (fun he=>by have:=(yq k he.symm).1;omega),fun _=>A3⟩,bX,⟨fun _ _ _ x=>QU.cell _ _ _ (aq.ext.lc _ _ _ x),fun _ _ x=>QU.mp _ _ (aq.ext.lm _ _ x),fun b hb x=>QU.df b (aq.ext.ld b hb x),fun b hb=>?_,fun b hb=>?_⟩,fun id o ho=>?_,fun i j b cj hi hj cY cT=>?_⟩,?_⟩
 ·exact(oW b (fun he=>by have:=(r6 b he).1;omega)).1.trans (aq.ext.cell b hb)
 ·exact(oW b (fun he=>by have:=(r6 b he).1;omega)).2.trans (aq.ext.mp b hb)
 ·by_cases aB:id < l.length
  ·rw[cB id aB] at ho;rw[eh m v (by omega)]
   by_cases hd:o = .dead
   ·subst hd;trivial
   exact(aq.obj id o ((rZ id o ho).resolve_left hd)).pR hle (Xx id o ho hd) (fun b hb=>oW b (fun he=>(r6 b he).2 id (bZ.2 ⟨o,ho,hd⟩) hb))
  have:id=l.length:=by
   have:=(List.getElem?_eq_some_iff.1 ho).1;simp at this;omega
  subst this
  rw[vW] at ho;injection ho with ho;subst ho
  rw[nT]
  exact fB
 ·have dD:∀ k,k≠l.length→alive (lo++[AO.cF e size els]) k=true→alive lo k=true∧k < l.length:=by
   intro k hk ha
   obtain⟨o,ho,hd⟩:=bZ.1 ha
   have js:k < l.length:=by have:=(List.getElem?_eq_some_iff.1 ho).1;simp at this;omega
   rw[cB k js] at ho
   exact⟨bZ.2 ⟨o,ho,hd⟩,js⟩
  by_cases h1:i=l.length
  ·subst h1;rw[nT] at cY;rw[eh m v (Ne.symm cj)] at cT
   exact(r6 b cY).2 j (dD j (Ne.symm cj) hj).1 cT
  by_cases h2:j=l.length
  ·subst h2;rw[nT] at cT;rw[eh m v cj] at cY
   exact(r6 b cT).2 i (dD i cj hi).1 cY
  rw[eh m v h1] at cY;rw[eh m v h2] at cT
  have a1:=(dD i h1 hi).1
  have a2:=(dD j h2 hj).1
  obtain⟨o1,q1,d1⟩:=bZ.1 a1
  obtain⟨o2,q2,d2⟩:=bZ.1 a2
  exact aq.sep i j b cj (bZ.2 ⟨o1,(rZ i o1 q1).resolve_left d1,d1⟩) (bZ.2 ⟨o2,(rZ j o2 q2).resolve_left d2,d2⟩) cY cT
 obtain⟨A,n,c,rfl⟩:=uZ
 exact .row A n c _ (by simp;omega) (fun _=>nT m _ _)
end
end Go.an
