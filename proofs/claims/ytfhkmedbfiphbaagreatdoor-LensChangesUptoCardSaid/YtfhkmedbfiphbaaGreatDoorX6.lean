import Derived.Test.YtfhkmedbfiphbaaGreatDoorX5
import Derived.Shelf.GgSortFunc.InsertionK
import Derived.Shelf.SlSortCmp.InsertionK
import Derived.Sort.AssemblyPlain
import Derived.Test.YtfhkmedbfiphbaaGreatDoorProg
import Derived.Test.YtfhkmedbfiphbaaGreatDoorCards
import Derived.Test.YtfhkmedbfiphbaaGreatDoorTie
import Derived.OpenShut
import Derived.Deep.DeepHandedRow
import Derived.Lib.LaidTab
import Derived.Shelf.SlGeneric
import Derived.Shelf.SlIterI.Nil
import Derived.Shelf.SortM.Plain
import Derived.Shelf.SortM.SortNone
import Derived.Ground.SlsfProg
import Derived.Ground.GgzProg
import Derived.Ground.SlgmProg
set_option linter.all false
namespace Go.aj
open Go Go.RowKit cE Go.Proofs Go.Sort
variable [bh]
theorem aeW (w:World) (b:Nat) (f:Array Value→Array Value) (cur:Array Value) (e:TypeId) (fr:Nat×Nat) (h:w.heap[b]?=some (.cells cur e fr)):mapBlock w b f=w.setRow b (f cur):=by
 unfold mapBlock World.setRow
 congr 1
 apply Array.ext_getElem?
 intro k
 simp only[Array.getElem?_modify]
 by_cases hk:b=k
 ·subst hk;simp[h,onCells]
 simp[hk]
theorem agm (F cur:Array Value) (hF:F.size≤cur.size):(putCells (fun v=>v) 0 F cur).toList=F.toList++cur.toList.drop F.size:=by
 apply List.ext_getElem?
 intro i
 have h1:(putCells (fun v=>v) 0 F cur).toList[i]?=(cur[i]?).map fun x=>if i < F.size then F[i]! else x:=by
  rw[Array.getElem?_toList]
  unfold putCells
  rw[Array.getElem?_mapIdx]
  simp
 rw[h1,List.getElem?_append]
 by_cases hi:i < F.size
 ·have:i < cur.size:=by omega
  simp[hi,this]
 simp[hi,List.getElem?_drop,show F.size+(i - F.size)=i by omega]
theorem aaG {α:Type} [Inhabited α] (venc:α→List Value) (k:Nat) (hv:∀ x,(venc x).length=k) (d:Array α):(flatK venc k d).toList=d.toList.flatMap venc:=by
 apply List.ext_getElem?
 intro i
 have cG:∀ (l:List α) (i:Nat),(l.flatMap venc)[i]?=(l[i / k]?).bind fun x=>(venc x)[i % k]?:=by
  intro l
  induction l with
  | nil=>intro i;simp
  | cons x l ih=>
   intro i
   rw[List.flatMap_cons,List.getElem?_append,hv]
   by_cases hi:i < k
   ·rw[if_pos hi,Nat.div_eq_of_lt hi,Nat.mod_eq_of_lt hi];simp
   rw[if_neg hi,ih]
   have hk:0 < k∨k=0:=by omega
   rcases hk with hk | hk
   ·have e1:i / k=(i - k) / k+1:=by rw[Nat.div_eq_sub_div hk (by omega)]
    have e2:i % k=(i - k) % k:=by rw[Nat.mod_eq_sub_mod (by omega)]
    rw[e1,e2];simp
   subst hk
   have hz:∀ y:α,venc y=[]:=fun y=>List.eq_nil_of_length_eq_zero (hv y)
   simp[hz]
 rw[cG]
 have aK:(flatK venc k d).toList.length=d.size*k:=by simp
 by_cases hi:i < d.size*k
 ·have hk:0 < k:=by
             rcases Nat.eq_zero_or_pos k with h | h;· subst h;simp at hi
             exact h
  have hd:i / k < d.size:=(Nat.div_lt_iff_lt_mul hk).2 hi
  have hm:i % k < k:=Nat.mod_lt _ hk
  have hg:=get_flatK venc k d i hi
  rw[Array.getElem?_toList,Array.getElem?_eq_getElem (by simpa using hi),Array.getElem?_toList,Array.getElem?_eq_getElem hd]
  rw[getElem!_pos _ i (by simpa using hi),getElem!_pos d _ hd] at hg
  rw[hg]
  simp only[Option.bind_some]
  rw[getElem!_pos _ _ (by rw[hv];exact hm),List.getElem?_eq_getElem (by rw[hv];exact hm)]
 rw[List.getElem?_eq_none (by rw[aK];omega)]
 rcases Nat.eq_zero_or_pos k with h | h
 ·subst h
  have hz:∀ y:α,venc y=[]:=fun y=>List.eq_nil_of_length_eq_zero (hv y)
  cases d.toList[i / 0]?<;>simp[hz]
 rw[List.getElem?_eq_none (by rw[Array.length_toList];exact(Nat.le_div_iff_mul_le h).2 (by omega))];rfl
section
variable {P:Program} {V:Env} {w0 w:World} {I0 I:aw} {m:Nat→Value} {l:List AO} {α:Type} [Inhabited α]
theorem aF.grown (h:aF w0 I0 w I m l) (q:Nat) (os:Array Obj):aF w0 I0 (grow (w.drewN q) os) I m l∧Le I m l I m l:=by
 have hb:∀ k,k < w.heap.size→(grow (w.drewN q) os).heap[k]?=w.heap[k]?:=fun k hk=>by simp[grow,Array.getElem?_append,hk]
 refine h.call ⟨rfl,rfl,rfl,by simp[grow],fun k hk=>hb k hk,fun _=>by simp[grow,World.drewN]⟩ (gE.refl _ _) ⟨fun b o v hc=>?_,fun b es hc=>?_,fun b hd=>(hb b (h.sat.mr hd)).trans (h.sat.df b hd),h.sat.dA⟩
 ·exact(World.cell?_of_block (w:=w) (a:=⟨b,o,none⟩) (hb b (h.sat.lt hc))).trans (h.sat.cell b o v hc)
 have hh:=h.sat.mp b es hc
 exact gd.to (hb b (h.sat.qb hc)) hh
theorem aF.sorted (ah:aF w0 I0 w I m l) {id b c e size:Nat} {els:List D} {ys:List α} {venc:α→List Value} {denc:α→D} (ho:l[id]?=some (.row e size els)) (hm:m id = .slice (some ⟨b,0,none⟩) els.length c)
  (hlen:ys.length=els.length) (hv:∀ x,(venc x).length=size) (hd:∀ x,(denc x).cells.length=size∧∀ y∈(denc x).cells,y.one=true) (Eo:∀ x (j:Nat) u y,(venc x)[j]?=some u→(denc x).cells[j]?=some y→Rd I u y) (q:Nat) (os:Array Obj) :
  Le I m l I m (l.set id (.row e size (ys.map denc)))∧aF w0 I0 (sortWorldK venc size w b 0 q ys.toArray os) I m (l.set id (.row e size (ys.map denc))):=by
 obtain⟨xs,k1,k2,k3,k4⟩:=ah.obj id _ ho
 rw[hm] at k1
 obtain⟨j1,pK⟩:=k1
 rcases pK with ⟨mn,_⟩ | ⟨g,cap,cur,mn,hb,hg,fC,nH,aR,nS⟩
 ·cases mn
 injection mn with bX gQ vk
 injection bX with bX;injection bX with bX;subst bX;subst vk
 have hF:(flatK venc size ys.toArray).size=els.length*size:=by simp[hlen]
 have RQ:(flatK venc size ys.toArray).toList=ys.flatMap venc:=by rw[aaG venc size hv]
 have hle:els.length*size≤cur.size:=by rw[aR];exact Nat.mul_le_mul_right _ fC
 have nI:=agm (flatK venc size ys.toArray) cur (by rw[hF];exact hle)
 have S1:sortWorldK venc size w b 0 q ys.toArray os=grow ((w.setRow b (putCells (fun v=>v) 0 (flatK venc size ys.toArray) cur)).drewN q) os:=by
  unfold sortWorldK putRowK putRow
  have nL:(Sort.ahead w q).heap[b]?=some (.cells cur e (0,0)):=hg
  rw[aeW _ b _ cur e (0,0) nL]
  rfl
 generalize fo:putCells (fun v=>v) 0 (flatK venc size ys.toArray) cur=new at nI S1
 have gO:new.size=cur.size:=by rw[←fo];simp[putCells]
 have cG:flat (ys.map denc)=ys.flatMap fun x=>(denc x).cells:=by simp[flat,List.flatMap_map]
 have f1:(ys.flatMap venc).length=(ys.map denc).length*size:=by rw[←RQ,Array.length_toList,hF,List.length_map,hlen]
 have f2:new.toList.take ((ys.map denc).length*size)=ys.flatMap venc:=by
  rw[nI,List.length_map,hlen,←hF,List.take_append_of_le_length (by rw[Array.length_toList];exact Nat.le_refl _),List.take_of_length_le (by rw[Array.length_toList];exact Nat.le_refl _),RQ]
 have f3:∀ d∈ys.map denc,d.cells.length=size∧∀ x∈d.cells,x.one=true:=by
  intro d JK
  obtain⟨x,_,rfl⟩:=List.mem_map.1 JK
  exact hd x
 have f4:∀ (j:Nat) u y,(ys.flatMap venc)[j]?=some u→(flat (ys.map denc))[j]?=some y→Rd I u y:=by
  intro j u y hu hy
  rw[cG] at hy
  have key:∀ (zs:List α) (j:Nat),(zs.flatMap venc)[j]?=some u→(zs.flatMap fun x=>(denc x).cells)[j]?=some y→Rd I u y:=by
   intro zs
   induction zs with
   | nil=>intro j hu;simp at hu
   | cons z zs ih=>
    intro j hu hy
    rw[List.flatMap_cons,List.getElem?_append,hv] at hu
    rw[List.flatMap_cons,List.getElem?_append,(hd z).1] at hy
    by_cases hj:j < size
    ·rw[if_pos hj] at hu hy;exact Eo z j u y hu hy
    rw[if_neg hj] at hu hy;exact ih _ hu hy
  exact key ys j hu hy
 obtain⟨h1,h2⟩:=ah.Hl (n:=els.length) (c:=c) (cur:=cur) (new:=new) (xs:=ys.flatMap venc) (els':=ys.map denc) ho hm hg ⟨f1,.inr ⟨b,c,new,by simp[hlen],hb,setRow_heap w b cur new e (0,0) hg,by simpa [hlen] using fC,nH,by rw[gO,aR],f2⟩⟩ f3 f4
 obtain⟨h3,_⟩:=h2.grown q os
 rw[S1]
 exact⟨h1,h3⟩
theorem aa2 (uX:bh.on) {w w':World} (h:eB w.heap.size w w'):∃ q os,w'=grow (w.drewN q) os:=by
 refine⟨w'.drawn - w.drawn,w'.heap.extract w.heap.size w'.heap.size,?_⟩
 obtain⟨heap,tape,drawn,os,output⟩:=w'
 obtain⟨h1,h2,h3,h4,h5,h6⟩:=h
 have h6:=h6 uX
 simp only at h1 h2 h3 h4 h5 h6
 subst h1;subst h2;subst h3
 unfold grow World.drewN
 simp only
 congr 1
 ·apply Array.ext_getElem?
  intro k
  rw[Array.getElem?_append]
  split
  ·rename_i hk;exact h5 k hk
  rename_i hk
  simp only[Array.getElem?_extract]
  by_cases D2:k < heap.size
  ·have:w.heap.size+(k - w.heap.size)=k:=by omega
   rw[this];simp;omega
  rw[Array.getElem?_eq_none (by omega)];simp;omega
 omega
end
end Go.aj
namespace Go.aj
open Go Go.RowKit cE Go.Proofs Go.Sort
variable [bh]
section
variable {P:Program} {V:Env} {w0 w:World} {I0 I:aw} {m:Nat→Value} {l:List AO} {α:Type} [Inhabited α]
theorem Zy (uX:bh.on) {P:Program} {g k:Nat} {venc:α→List Value} {denc:α→D} {cf:α→α→Int} {cV:List D} (jU:∀ x y,gg P g ([denc x,denc y]++cV) (.int .i64 (cf x y))) (RY:∀ I x,Rd I (.agg (venc x).toArray) (denc x)) {iD off size:Nat} {w:World} {I:aw} {vs:Array Value}
  (aR:vs.size=cV.length) (hcr:∀ (i:Nat) v d,vs[i]?=some v→cV[i]?=some d→Rd I v d) (du:∀ (mm:Nat) (os:Array Obj) (dk:Array α),dk.size=size→dH (sortWorldK venc k w iD off mm dk os) I):CmpLays P g vs venc k cf iD off size w:=by
 intro mm os dk hs x y
 have aK:(#[Value.agg (venc x).toArray,Value.agg (venc y).toArray]++vs).size=([denc x,denc y]++cV).length:=by
  rw[Array.size_append,List.length_append,aR];rfl
 have ch:∀ (i:Nat) v d,(#[Value.agg (venc x).toArray,Value.agg (venc y).toArray]++vs)[i]?=some v→([denc x,denc y]++cV)[i]?=some d→Rd I v d:=by
  intro i v d hv hd
  rcases i with _ | _ | i
  ·rw[Array.getElem?_append_left (by simp)] at hv
   simp at hv hd;subst hv;subst hd;exact RY I x
  ·rw[Array.getElem?_append_left (by simp)] at hv
   simp at hv hd;subst hv;subst hd;exact RY I y
  rw[Array.getElem?_append_right (by simp)] at hv
  exact hcr i v d (by simpa using hv) (by simpa using hd)
 have h:=jU x y (sortWorldK venc k w iD off mm dk os) I (#[Value.agg (venc x).toArray,Value.agg (venc y).toArray]++vs) (du mm os dk hs) aK ch
 refine h.mono ?_
 rintro e w' ⟨v,J,he,hb,_,_,hr⟩
 cases hr
 exact⟨he,aa2 uX hb⟩
theorem aib {P:Program} {g:Nat} {fd:D} {e size:Nat} {venc:α→List Value} {denc:α→D} {S:Array α→Array α} (hS:∀ d,(S d).size=d.size)
  (jU:∀ (b c:Nat) (d:Array α) (w:World) (I:aw) (fv:Value),HoldsK venc size w b 0 d→b < w.heap.size→d.size < 4611686018427387904→Rd I fv fd→(∀ (mm:Nat) (os:Array Obj) (dk:Array α),dk.size=d.size→dH (sortWorldK venc size w b 0 mm dk os) I)→Calls P g #[.slice (some ⟨b,0,none⟩) d.size c,fv] w fun e w'=>e = .returned (.tuple #[])∧∃ n os,w'=sortWorldK venc size w b 0 n (S d) os)
  (Ah:∀ (p:Option Addr) (c:Nat) (fv:Value) (w:World),Calls P g #[.slice p 0 c,fv] w fun e w'=>e = .returned (.tuple #[])∧w'=w)
  (hv:∀ x,(venc x).length=size) (hd:∀ x,(denc x).cells.length=size∧∀ y∈(denc x).cells,y.one=true) (Eo:∀ (I:aw) x (j:Nat) u y,(venc x)[j]?=some u→(denc x).cells[j]?=some y→Rd I u y) (hdv:∀ (I:aw) x (j:Nat) u y,(denc x).cells[j]?=some y→Rd I u y→(venc x)[j]?=some u)
  {l:List AO} {id:Nat} {xs:List α} (ho:l[id]?=some (.row e size (xs.map denc))) (hx:xs.length < 4611686018427387904) :
  CB P g [.row id,.d fd] l (.d (.aI [])) (l.set id (.row e size ((S xs.toArray).toList.map denc))):=by
 intro w0 I0 w I m args ah aK c9
 obtain⟨v0,v1,rfl⟩:∃ v0 v1,args = #[v0,v1]:=by
  match args,aK with
  | ⟨[a,b]⟩,_=>exact⟨a,b,rfl⟩
 have h0:=c9 0 v0 (.row id) rfl rfl
 have h1:=cy (c9 1 v1 (.d fd) rfl rfl)
 obtain⟨ys,k1,k2,k3,k4⟩:=ah.obj id _ ho
 obtain⟨A,n,c,mn,hm⟩:∃ A n c,v0 = .slice A n c∧m id=v0:=by
  cases h0 with
  | row A n c _ p1 p2=>exact⟨A,n,c,rfl,p2 (by simp[isRow,ho,AO.isRow])⟩
 rw[hm,mn] at k1
 obtain⟨j1,pK⟩:=k1
 have jV:id < l.length:=(List.getElem?_eq_some_iff.1 ho).1
 rcases pK with ⟨hs,D9⟩ | ⟨b,cap,cur,hs,hb,hg,fC,nH,aR,nS⟩
 ·injection hs with q1 q2 q3;subst q1;subst q2;subst q3
  have dw:xs=[]:=by simpa using D9
  subst dw
  subst mn
  refine(Ah none 0 _ w).mono ?_
  rintro e' w' ⟨he,hw⟩
  subst hw
  have hS0:(S ([]:List α).toArray).toList=[]:=by have:=hS ([]:List α).toArray;exact List.eq_nil_of_length_eq_zero (by rw[Array.length_toList,this];rfl)
  have fY:l.set id (.row e size ((S ([]:List α).toArray).toList.map denc))=l:=by
   rw[hS0]
   apply List.ext_getElem?
   intro k
   rw[List.getElem?_set]
   by_cases hk:id=k
   ·subst hk;rw[if_pos rfl,if_pos jV,ho]
   rw[if_neg hk]
  rw[fY]
  exact⟨_,he,I,m,.refl ..,ah,.d _ _ (.aI #[] [] rfl (fun i v d h=>by simp at h))⟩
 injection hs with q1 q2 q3;subst q1;subst q2;subst q3
 subst mn
 have hlen:(xs.map denc).length=xs.toArray.size:=by simp
 have gx:∀ j,j < xs.toArray.size*size→∃ u,cur[j]?=some u∧ys[j]?=some u∧(flatK venc size xs.toArray)[j]! = u:=by
  intro j hj
  have il:j < ys.length:=by rw[j1,hlen];exact hj
  obtain⟨z,hu⟩:∃ z,ys[j]?=some z:=⟨_,List.getElem?_eq_getElem il⟩
  have hcu:cur[j]?=some z:=by
   have hu:=hu
   rw[←nS,List.getElem?_take] at hu
   split at hu
   ·simpa using hu
   cases hu
  refine⟨_,hcu,hu,?_⟩
  have hk:0 < size:=by
               rcases Nat.eq_zero_or_pos size with h | h;· subst h;simp at hj
               exact h
  have JL:j / size < xs.toArray.size:=(Nat.div_lt_iff_lt_mul hk).2 hj
  have D7:j % size < size:=Nat.mod_lt _ hk
  rw[get_flatK venc size xs.toArray j hj]
  have JS:=flat_get (xs.map denc) (fun d JK=>(k2 d JK).1) (j / size) (j % size) (denc xs[j / size]) (by rw[List.getElem?_map,List.getElem?_eq_getElem (by simpa using JL)];rfl) D7
  rw[Nat.mul_comm,Nat.div_add_mod] at JS
  obtain⟨y,hy⟩:∃ y,(denc xs[j / size]).cells[j % size]?=some y:=⟨_,List.getElem?_eq_getElem (by rw[(hd (xs[j / size]'(by simpa using JL))).1];exact D7)⟩
  rw[hy] at JS
  have ch:=k3 j _ y hu JS
  have:=hdv I _ _ _ _ hy ch
  rw[getElem!_pos xs.toArray _ JL,getElem!_pos _ _ (by rw[hv];exact D7)]
  rw[List.getElem?_eq_getElem (by rw[hv];exact D7)] at this
  simpa using this
 have hH:HoldsK venc size w b 0 xs.toArray:=by
  intro j hj
  rw[size_flatK] at hj
  obtain⟨u,h1,_,h3⟩:=gx j hj
  rw[h3]
  refine⟨?_,?_⟩
  ·simp[World.cell?,hg,h1]
  simp[World.frozen?,hg]
 have aN:b < w.heap.size:=(Array.getElem?_eq_some_iff.1 hg).1
 rw[hlen]
 refine(jU b c xs.toArray w I v1 hH aN (by simpa using hx) h1 (fun mm os dk zZ=>(ah.sorted (ys:=dk.toList) (venc:=venc) (denc:=denc) ho (by rw[hm]) (by rw[Array.length_toList,zZ,hlen]) hv hd (fun x j u y=>Eo I x j u y) mm os).2.sat)).mono ?_
 rintro e' w' ⟨he,q,os,hw⟩
 obtain⟨g1,g2⟩:=ah.sorted (ys:=(S xs.toArray).toList) (venc:=venc) (denc:=denc) ho (by rw[hm]) (by rw[Array.length_toList,hS,hlen]) hv hd (fun x j u y=>Eo I x j u y) q os
 refine⟨_,he,I,m,g1,?_,.d _ _ (.aI #[] [] rfl (fun i v d h=>by simp at h))⟩
 rw[hw];simpa using g2
end
end Go.aj
namespace Go.aj
open Go Go.RowKit cE Go.Proofs Go.Sort
def vD:D→Value
 | .int k n=> .int k n
 | .bool b=> .bool b
 | .str s=> .string s
 | _=>undef
def tS:D→Bool
 | .int .. =>true
 | .bool _=>true
 | .str _=>true
 | _=>false
theorem XN (I:aw) {y:D} (h:tS y=true):Rd I (vD y) y:=by cases y<;>simp[tS] at h<;>constructor
theorem ai7 {I:aw} {u:Value} {y:D} (h:tS y=true) (r:Rd I u y):u=vD y:=by cases y<;>simp[tS] at h<;>cases r<;>rfl
section
variable {α:Type} [cE α]
def oj (x:α):List Value:=(enc x:D).cells.map vD
structure Flat (α:Type) [cE α] (k:Nat):Prop where
 agg:∀ x:α,(enc x:D) = .agg (enc x:D).cells
 len:∀ x:α,(enc x:D).cells.length=k
 sc:∀ (x:α),∀ y∈(enc x:D).cells,tS y=true
theorem WQ {y:D} (h:tS y=true):y.one=true:=by cases y<;>simp[tS] at h<;>rfl
theorem Flat.rd {k:Nat} (F:Flat α k) (I:aw) (x:α):Rd I (.agg (oj x).toArray) (enc x):=by
 rw[F.agg x]
 refine .agg _ _ (by simp[oj,D.cells]) (fun d hd=>WQ (F.sc x d hd)) fun i v d hv hd=>?_
 simp only[oj,List.getElem?_toArray,List.getElem?_map] at hv
 have aS:(enc x:D).cells[i]?=some d:=hd
 rw[aS] at hv
 simp at hv;subst hv
 exact XN I (F.sc x d (List.mem_of_getElem? aS))
theorem Flat.vd {k:Nat} (F:Flat α k) (I:aw) (x:α) (j:Nat) (u:Value) (y:D) (hu:(oj x)[j]?=some u) (hy:(enc x:D).cells[j]?=some y):Rd I u y:=by
 simp only[oj,List.getElem?_map,hy] at hu
 simp at hu;subst hu
 exact XN I (F.sc x y (List.mem_of_getElem? hy))
theorem Flat.dv {k:Nat} (F:Flat α k) (I:aw) (x:α) (j:Nat) (u:Value) (y:D) (hy:(enc x:D).cells[j]?=some y) (hr:Rd I u y):(oj x)[j]?=some u:=by
 simp only[oj,List.getElem?_map,hy]
 rw[ai7 (F.sc x y (List.mem_of_getElem? hy)) hr];rfl
end
section
variable {α:Type}
def qo (cf:α→α→Int) (l:List α):List α:=l.mergeSort fun a b=> !decide (cf b a < 0)
theorem G9 (cf:α→α→Int) (l:List α):(qo cf l).Perm l:=List.mergeSort_perm _ _
theorem lt_iff (cf:α→α→Int) (a b:α):ltOf cf a b=true↔cf a b < 0:=by simp[ltOf]
theorem E8 (cf:α→α→Int) (a b:α):ltOf cf a b=false↔¬ cf a b < 0:=by simp[ltOf]
theorem yL {cf:α→α→Int} (h:SWO (ltOf cf)) (l:List α):(qo cf l).Pairwise fun a b=>¬ cf b a < 0:=by
 have:=List.pairwise_mergeSort (le:=fun a b=> !decide (cf b a < 0)) (fun a b c h1 h2=>by
  simp only[Bool.not_eq_true',decide_eq_false_iff_not] at *
  exact(E8 cf _ _).1 (h.ntrans _ _ _ ((E8 cf _ _).2 h2) ((E8 cf _ _).2 h1))) (fun a b=>by
  simp only[Bool.or_eq_true,Bool.not_eq_true',decide_eq_false_iff_not]
  by_cases hb:cf b a < 0
  ·right;intro h2
   have h3:=h.trans _ _ _ ((lt_iff cf _ _).2 h2) ((lt_iff cf _ _).2 hb)
   rw[h.irrefl] at h3;cases h3
  left;exact hb) l
 exact this.imp fun h=>by simpa using h
def pk (cf:α→α→Int) (l:List α):Prop:=∀ a∈l,∀ b∈l,¬ cf a b < 0→¬ cf b a < 0→a=b
theorem Xd {cf:α→α→Int} {l m:List α} (hl:l.Pairwise fun a b=>¬ cf b a < 0) (hm:m.Pairwise fun a b=>¬ cf b a < 0) (hp:l.Perm m) (ha:pk cf l):l=m:=
 List.Perm.eq_of_pairwise (le:=fun a b=>¬ cf b a < 0) (fun a b h1 h2 h3 h4=>ha a h1 b (hp.symm.subset h2) h4 h3) hl hm hp
theorem pk.perm {cf:α→α→Int} {l m:List α} (h:pk cf l) (hp:l.Perm m):pk cf m:=fun a ha b hb=>h a (hp.symm.subset ha) b (hp.symm.subset hb)
section
variable {ok:α→Prop} [Inhabited {x:α // ok x}]
def sr (ok:α→Prop) (cf:α→α→Int) (a b:{x:α // ok x}):Int:=cf a.1 b.1
theorem Xn {cf:α→α→Int} (h:SWO (ltOf cf)):SWO (ltOf (sr ok cf)):=⟨fun x=>h.irrefl x.1,fun x y z=>h.trans x.1 y.1 z.1,fun x y z=>h.ntrans x.1 y.1 z.1⟩
def mD (ok:α→Prop) [Inhabited {x:α // ok x}] (cf:α→α→Int) (d:Array {x:α // ok x}):Array {x:α // ok x}:=Go.Sort.pdq (ltOf (sr ok cf)) d 0 d.size (Go.Lib.bitLen d.size) true true
theorem W7 {cf:α→α→Int} (h:SWO (ltOf cf)) (d:Array {x:α // ok x}):Go.Sort.PermIn 0 d.size d (mD ok cf d)∧Go.Sort.SortedIn (ltOf (sr ok cf)) 0 d.size (mD ok cf d):=
 Go.Sort.pdq_sorts (ltOf (sr ok cf)) (Xn h) d 0 d.size (Go.Lib.bitLen d.size) true true (Nat.zero_le _) (Nat.le_refl _) (Or.inl rfl)
theorem ah6 {cf:α→α→Int} (hs:SWO (ltOf cf)) {xs:List α} (h:∀ x∈xs,ok x) (ha:pk cf xs):∃ gs:List {x:α // ok x},gs.map (·.1)=xs∧(mD ok cf gs.toArray).toList.map (·.1)=qo cf xs:=by
 refine⟨xs.pmap Subtype.mk h,by simp[List.map_pmap],?_⟩
 generalize hg:xs.pmap Subtype.mk h=gs
 have hgx:gs.map (·.1)=xs:=by rw[←hg];simp[List.map_pmap]
 obtain⟨h1,h2⟩:=W7 hs gs.toArray
 have aK:=h1.1
 have hp:(mD ok cf gs.toArray).toList.Perm gs:=by
  have h3:=h1.2.2
  simp only[←aK,Array.extract_size] at h3
  rw[aK,Array.extract_size] at h3
  simpa using h3
 have Kx:((mD ok cf gs.toArray).toList.map (·.1)).Pairwise fun a b=>¬ cf b a < 0:=by
  rw[List.pairwise_map]
  refine List.pairwise_iff_getElem.2 fun i j hi hj cm=>?_
  have dN:i < (mD ok cf gs.toArray).size:=by simpa using hi
  have il:j < (mD ok cf gs.toArray).size:=by simpa using hj
  have:=h2 i j (Nat.zero_le _) cm (by omega)
  rw[getElem!_pos (mD ok cf gs.toArray) i dN,getElem!_pos (mD ok cf gs.toArray) j il] at this
  have:=(E8 (sr ok cf) _ _).1 this
  simpa [sr] using this
 have ra:((mD ok cf gs.toArray).toList.map (·.1)).Perm xs:=by rw[←hgx];exact hp.map _
 exact Xd Kx (yL hs xs) (ra.trans (G9 cf xs).symm) (ha.perm ra.symm)
end
end
section
variable {α:Type} [cE α]
theorem aav (D1:bh) [D0:bh] (uX:@bh.on D1) (JI:@bh.l8 D1=@bh.l8 D0) {P:Program} {g cmp e k:Nat} {cV:List D} {ok:α→Prop} [Inhabited {x:α // ok x}] {cf:α→α→Int} (F:Flat α k) (hs:SWO (ltOf cf))
  (jU:∀ x y,ok x→ok y→@gg D1 P cmp ([enc x,enc y]++cV) (.int .i64 (cf x y)))
  (
   zW:∀ (b c:Nat) (d:Array {x:α // ok x}) (w:World) (vs:Array Value),CmpLays P cmp vs (fun x:{x:α // ok x}=>oj x.1) k (sr ok cf) b 0 d.size w→HoldsK (fun x:{x:α // ok x}=>oj x.1) k w b 0 d→b < w.heap.size→d.size < 4611686018427387904 →
   Calls P g #[.slice (some ⟨b,0,none⟩) d.size c,.func (.func cmp) #[] vs] w fun e w'=>e = .returned (.tuple #[])∧∃ n os,w'=sortWorldK (fun x:{x:α // ok x}=>oj x.1) k w b 0 n (mD ok cf d) os)
  (Ah:∀ (p:Option Addr) (c:Nat) (fv:Value) (w:World),Calls P g #[.slice p 0 c,fv] w fun e w'=>e = .returned (.tuple #[])∧w'=w)
  {l:List AO} {id:Nat} {xs:List α} (ho:l[id]?=some (.row e k (xs.map enc))) (hx:xs.length < 4611686018427387904) (cr:∀ x∈xs,ok x) (ha:pk cf xs) :
  CB P g [.row id,.d (.aL cmp cV)] l (.d (.aI [])) (l.set id (.row e k ((qo cf xs).map enc))):=by
 obtain⟨gs,DW,DX⟩:=ah6 hs cr ha
 have bK:l[id]?=some (.row e k (gs.map fun x:{x:α // ok x}=>(enc x.1:D))):=by rw[ho,←DW,List.map_map];rfl
 have:=aib (P:=P) (g:=g) (fd:= .aL cmp cV) (S:=mD ok cf) (venc:=fun x:{x:α // ok x}=>oj x.1) (denc:=fun x:{x:α // ok x}=>(enc x.1:D)) (fun d=>(W7 hs d).1.1)
  (
   fun b c d w I fv hH hb hd Sl du=>by
   obtain⟨vs,rfl,h1,h2⟩:∃ vs,fv = .func (.func cmp) #[] vs∧vs.size=cV.length∧∀ (i:Nat) v d,vs[i]?=some v→cV[i]?=some d→Rd I v d:=by
    cases Sl with
    | aL _ vs _ q1 q2=>exact⟨vs,rfl,q1,q2⟩
   exact zW b c d w vs (@Zy D1 _ _ uX _ _ _ _ (fun x:{x:α // ok x}=>(enc x.1:D)) _ _ (fun x y=>jU x.1 y.1 x.2 y.2) (fun I x=>F.rd I x.1) _ _ _ _ I _ h1 h2 (fun mm os dk zZ=>by
    have hI:=du mm os dk zZ
    exact @dH.mk D1 _ _ hI.cell hI.mp hI.df (fun g d h=>hI.dA g d (by rw[←JI];exact h)))) hH hb hd) Ah
  (fun x=>by simp[oj,F.len]) (fun x=>⟨F.len x.1,fun y hy=>WQ (F.sc x.1 y hy)⟩) (fun I x=>F.vd I x.1) (fun I x=>F.dv I x.1) bK (by rw[←DW] at hx;simpa using hx)
 have e:(mD ok cf gs.toArray).toList.map (fun x:{x:α // ok x}=>(enc x.1:D))=(qo cf xs).map enc:=by rw[←DX,List.map_map];rfl
 rw[e] at this
 exact this
end
end Go.aj
namespace Go.Sy
open Go Go.aj
local instance ajy:bh:=⟨False,fun _=>none⟩
attribute [local instance] cD
theorem ai {β:Type} {c:Bool} {a b:Option β} (h:c=true):ab c a b=a:=by subst h;rfl
theorem ak {β:Type} {c:Bool} {a b:Option β} (h:c=false):ab c a b=b:=by subst h;rfl
theorem aW {α:Type} {l:List α} {k:Nat} {x:α} (h:l[k]?=some x):av l (k:Int)=some x:=by unfold av;rw[if_pos (by omega)];simpa using h
theorem cq {β:Type} {p:Bool} {o:Option β} (h:p=true):ar p o=o:=by subst h;rfl
theorem aJ {β:Type} {n:Int} {o:Option β} (h : -9223372036854775808≤n∧n≤9223372036854775807):ar (az n) o=o:=cq (decide_eq_true h)
theorem fQ {α β:Type} (x:α) (f:α→Option β):cw (some (.inl x)) f=f x:=rfl
theorem iK {α β:Type} (y:β) (f:α→Option β):cw (some (.inr y)) f=some y:=rfl
theorem bo {α β:Type} {o:Option α} {f:α→Option β} {x:α} (h:o=some x):aa o f=f x:=by subst h;rfl
theorem Tn {α β:Type} {o:Option (α⊕β)} {f:α→Option β} {x:α⊕β} (h:o=some x):cw o f=Sum.elim f some x:=by subst h;cases x<;>rfl
theorem mV {β:Type} (a b:Option β):ab true a b=a:=rfl
theorem xL {β:Type} (a b:Option β):ab false a b=b:=rfl
theorem bU {α:Type} {l:List α} {k:Nat} {x:α} (h:l[k]?=some x):k < l.length:=(List.getElem?_eq_some_iff.1 h).1
theorem vu (c d:Bool):ab c (some true) (some d)=some (c||d):=by cases c<;>rfl
theorem j3 (c d:Bool):ab c (some d) (some false)=some (c&&d):=by cases c<;>rfl
theorem acj (c d:Bool):ab c (some false) (some d)=some (!c&&d):=by cases c<;>rfl
theorem zC {α:Type} (l:List α) (p:α→Bool):l.any p=(l.find? p).isSome:=by
 rw[Bool.eq_iff_iff,List.find?_isSome,List.any_eq_true]
theorem sY {α:Type} {f:α→Int} {l:List α} (h:(l.map f).Nodup) {a b:α} (ha:a∈l) (hb:b∈l) (e:f a=f b):a=b:=by
 induction l with
 | nil=>cases ha
 | cons x l ih=>
  simp only[List.map_cons,List.nodup_cons,List.mem_map] at h
  rcases List.mem_cons.1 ha with rfl | ha<;>rcases List.mem_cons.1 hb with rfl | hb
  ·rfl
  ·exact absurd ⟨b,‹_›,e.symm⟩ h.1
  ·exact absurd ⟨a,‹_›,e⟩ h.1
  exact ih h.2 ‹_› ‹_›
def fu {α σ ρ:Type} (f:σ→α→σ⊕ρ) (fin:σ→ρ):List α→σ→ρ
 | [],z=>fin z
 | x::xs,z=>match f z x with
  | .inl z'=>fu f fin xs z'
  | .inr r=>r
theorem fg {α σ τ ρ:Type} (st:σ→Int→τ) {step:τ→Option (τ⊕ρ)} {l:List α} (f:σ→α→σ⊕ρ) (fin:σ→ρ) (Inv:Nat→σ→Prop)
  (h:∀ (k:Nat) x z,l[k]?=some x→Inv k z→step (st z (k:Int))=some (match f z x with | .inl z'=> .inl (st z' ((k+1:Nat):Int)) | .inr r=> .inr r))
  (hinv:∀ (k:Nat) x z z',l[k]?=some x→Inv k z→f z x = .inl z'→Inv (k+1) z')
  (dM:∀ z,Inv l.length z→step (st z (l.length:Int))=some (.inr (fin z))) (z0:σ) (h0:Inv 0 z0):aU step (st z0 0)=some (fu f fin l z0):=by
 have key:∀ (n k:Nat) (z:σ),k+n=l.length→Inv k z→aU step (st z (k:Int))=some (fu f fin (l.drop k) z):=by
  intro n
  induction n with
  | zero=>
   intro k z hk hi
   have:k=l.length:=by omega
   subst this
   rw[List.drop_length]
   exact tf (dM z hi)
  | succ n ih=>
   intro k z hk hi
   have aN:k < l.length:=by omega
   have hx:l[k]?=some l[k]:=List.getElem?_eq_getElem aN
   rw[List.drop_eq_getElem_cons aN]
   have hs:=h k _ z hx hi
   simp only[fu]
   cases hf:f z l[k] with
   | inl z'=>
    rw[hf] at hs
    rw[E5 hs]
    exact ih (k+1) z' (by omega) (hinv k _ z z' hx hi hf)
   | inr r=>
    rw[hf] at hs
    rw[tf hs]
 simpa using key l.length 0 z0 (by omega) h0
theorem lC {α σ ρ:Type} {f:σ→α→σ⊕ρ} {fin:σ→ρ} (g:σ→α→σ):∀ (l:List α) (z:σ),(∀ z x,x∈l→f z x = .inl (g z x))→fu f fin l z=fin (l.foldl g z)
 | [],z,_=>rfl
 | x::l,z,h=>by
  simp only[fu,h z x (by simp),List.foldl_cons]
  exact lC g l _ fun z y hy=>h z y (by simp[hy])
theorem xY {α ρ:Type} {step:Int→Option (Int⊕(Unit⊕ρ))} {l:List α} (p:α→Bool) (r:ρ)
  (h:∀ (k:Nat) x,l[k]?=some x→step (k:Int)=some (if p x=true then .inr (.inr r) else .inl ((k+1:Nat):Int))) (dM:step (l.length:Int)=some (.inr (.inl ()))) :
  aU step 0=some (if l.any p=true then .inr r else .inl ()):=by
 have:=fg (σ:=Unit) (st:=fun _ k=>k) (step:=step) (l:=l) (fun _ x=>if p x=true then .inr (.inr r) else .inl ()) (fun _=> .inl ()) (fun _ _=>True) (fun k x z hx _=>by
  rw[h k x hx];split<;>rename_i hp<;>simp[hp]) (fun _ _ _ _ _ _ _=>trivial) (fun z _=>dM) () trivial
 rw[this]
 congr 1
 clear this h dM
 induction l with
 | nil=>rfl
 | cons x l ih=>
  simp only[fu,List.any_cons]
  by_cases hp:p x=true
  ·simp[hp]
  simp only[hp,Bool.false_or]
  simpa using ih
theorem E7 {ρ:Type} {step:Int→Option (Int⊕(Unit⊕ρ))} (n:Nat) (p:Nat→Bool) (r:ρ)
  (h:∀ (k:Nat),k < n→step (k:Int)=some (if p k=true then .inr (.inr r) else .inl ((k+1:Nat):Int))) (dM:step (n:Int)=some (.inr (.inl ()))) :
  aU step 0=some (if(List.range n).any p=true then .inr r else .inl ()):=
 xY (l:=List.range n) p r (fun k x hx=>by
  have hk:=bU hx
  rw[List.getElem?_range (by simpa using hk)] at hx
  injection hx with hx;subst hx
  exact h k (by simpa using hk)) (by rw[List.length_range];exact dM)
theorem vG {α:Type} {step:Int→Option (Int⊕(Unit⊕Int))} {l:List α} (p:α→Bool)
  (h:∀ (k:Nat) x,l[k]?=some x→step (k:Int)=some (if p x=true then .inr (.inr (k:Int)) else .inl ((k+1:Nat):Int))) (dM:step (l.length:Int)=some (.inr (.inl ()))) :
  aU step 0=some (match l.findIdx? p with | some i=> .inr (i:Int) | none=> .inl ()):=by
 have:=fg (σ:=Nat) (st:=fun _ k=>k) (step:=step) (l:=l) (fun z x=>if p x=true then .inr (.inr (z:Int)) else .inl (z+1)) (fun _=> .inl ()) (fun k z=>z=k) (fun k x z hx hz=>by
  subst hz;rw[h z x hx];split<;>rename_i hp<;>simp[hp]) (fun k x z z' _ hz hf=>by
  split at hf
  ·cases hf
  injection hf with hf;omega) (fun z _=>dM) 0 rfl
 rw[this]
 congr 1
 clear this h dM
 have key:∀ (l:List α) (z:Nat),fu (fun(z:Nat) x=>if p x=true then .inr (.inr (z:Int)) else .inl (z+1)) (fun _=>(.inl ():Unit⊕Int)) l z=match l.findIdx? p with | some i=> .inr ((z+i:Nat):Int) | none=> .inl ():=by
  intro l
  induction l with
  | nil=>intro z;simp[fu]
  | cons x l ih=>
   intro z
   simp only[fu,List.findIdx?_cons]
   by_cases hp:p x=true
   ·simp[hp]
   simp only[hp,if_false,Bool.false_eq_true]
   rw[ih]
   cases l.findIdx? p<;>simp<;>omega
 simpa using key l 0
def ix {α:Type} (l:List α) (p:α→Bool):Int:=match l.findIdx? p with | some i=>(i:Int) | none=> -1
theorem Td {α:Type} (l:List α) (p:α→Bool):decide (0≤ix l p)=l.any p:=by
 have:(l.findIdx? p).isSome=l.any p:=List.findIdx?_isSome
 unfold ix
 cases hf:l.findIdx? p with
 | none=>rw[hf] at this;simp[←this]
 | some i=>rw[hf] at this;simp[←this]
theorem mq {α:Type} (l:List α) (p:α→Bool):(l.find? p=none∧ix l p = -1)∨∃ (k:Nat) (x:α),l[k]?=some x∧l.find? p=some x∧ix l p=(k:Int)∧p x=true:=by
 unfold ix
 induction l with
 | nil=>left;simp
 | cons x l ih=>
  rw[List.findIdx?_cons,List.find?_cons]
  by_cases hp:p x=true
  ·right;exact⟨0,x,rfl,by simp[hp],by simp[hp],hp⟩
  simp only[hp]
  rcases ih with ⟨h1,h2⟩ | ⟨k,y,h1,h2,h3,h4⟩
  ·left
   refine⟨h1,?_⟩
   cases hf:l.findIdx? p with
   | none=>simp[hf]
   | some i=>rw[hf] at h2;exact absurd h2 (by simp only;omega)
  right
  refine⟨k+1,y,by simpa using h1,h2,?_,h4⟩
  cases hf:l.findIdx? p with
  | none=>rw[hf] at h3;exact absurd h3 (by simp only;omega)
  | some i=>rw[hf] at h3;simp at h3;simp[hf];omega
def o9 {α:Type} (q:α→Bool) (r:α→α→Bool) (l:List α) (k:Nat):Bool:=match l[k]? with | some y=>q y||(l.take k).any fun x=>r x y | none=>false
theorem Nf {α:Type} (q:α→Bool) (r:α→α→Bool) (l:List α):(List.range l.length).any (o9 q r l)=true↔¬ ((∀ x∈l,q x=false)∧l.Pairwise fun x y=>r x y=false):=by
 rw[List.any_eq_true]
 constructor
 ·rintro⟨k,hk,h⟩ ⟨h1,h2⟩
  have hk:=List.mem_range.1 hk
  unfold o9 at h
  rw[List.getElem?_eq_getElem hk] at h
  simp only[Bool.or_eq_true,List.any_eq_true] at h
  rcases h with h | ⟨x,hx,h⟩
  ·rw[h1 _ (List.getElem_mem hk)] at h;cases h
  obtain⟨j,hj,rfl⟩:=List.mem_take_iff_getElem.1 hx
  rw[List.pairwise_iff_getElem] at h2
  rw[h2 j k (by omega) hk (by omega)] at h;cases h
 intro h
 refine Classical.byContradiction fun bS=>h ⟨fun x hx=>?_,?_⟩
 ·refine Classical.byContradiction fun hq=>bS ?_
  obtain⟨k,hk,rfl⟩:=List.mem_iff_getElem.1 hx
  refine⟨k,List.mem_range.2 hk,?_⟩
  unfold o9
  rw[List.getElem?_eq_getElem hk]
  simp at hq;simp[hq]
 rw[List.pairwise_iff_getElem]
 intro i j hi hj cm
 refine Classical.byContradiction fun hr=>bS ⟨j,List.mem_range.2 hj,?_⟩
 unfold o9
 rw[List.getElem?_eq_getElem hj]
 simp only[Bool.or_eq_true,List.any_eq_true]
 right
 exact⟨l[i],List.mem_take_iff_getElem.2 ⟨i,by omega,rfl⟩,by simpa using hr⟩
theorem yQ {α:Type} {l:List α} {k j:Nat} {x:α} (h:(l.take k)[j]?=some x):j < k∧l[j]?=some x:=by
 have hj:=bU h
 rw[List.length_take] at hj
 rw[List.getElem?_take_of_lt (by omega)] at h
 exact⟨by omega,h⟩
theorem yx {α:Type} (id:α→Int) (l:List α):(l.Pairwise fun x y=>decide (id x=id y)=false)↔(l.map id).Nodup:=by
 unfold List.Nodup
 rw[List.pairwise_map]
 simp
def eD:List Int→Int
 | []=>0
 | x::l=>if x=0 then eD l else x
def bM {α:Type} (K:α→List Int) (a b:α):Int:=eD ((K a).zipWith (· - ·) (K b))
theorem Rm:∀ l:List Int,eD (l.zipWith (· - ·) l)=0
 | []=>rfl
 | x::l=>by
  simp only[List.zipWith_cons_cons,eD]
  rw[if_pos (by omega)];exact Rm l
theorem Jf:∀ (a b c:List Int),a.length=b.length→b.length=c.length→eD (a.zipWith (· - ·) b) < 0→eD (b.zipWith (· - ·) c) < 0→eD (a.zipWith (· - ·) c) < 0
 | [],[],[],_,_,h,_=>by simp[eD] at h
 | x::a,y::b,z::c,h1,h2,h3,h4=>by
  simp only[List.zipWith_cons_cons,eD] at h3 h4 ⊢
  have ih:=Jf a b c (by simpa using h1) (by simpa using h2)
  split at h3<;>split at h4<;>split<;>first | omega | exact ih h3 h4
 | [],_::_,_,h,_,_,_=>by simp at h
 | _::_,[],_,h,_,_,_=>by simp at h
 | _::_,_::_,[],_,h,_,_=>by simp at h
 | [],[],_::_,_,h,_,_=>by simp at h
theorem Dz:∀ (a b c:List Int),a.length=b.length→b.length=c.length→¬ eD (a.zipWith (· - ·) b) < 0→¬ eD (b.zipWith (· - ·) c) < 0→¬ eD (a.zipWith (· - ·) c) < 0
 | [],[],[],_,_,h,_=>by simp[eD]
 | x::a,y::b,z::c,h1,h2,h3,h4=>by
  simp only[List.zipWith_cons_cons,eD] at h3 h4 ⊢
  have ih:=Dz a b c (by simpa using h1) (by simpa using h2)
  split at h3<;>split at h4<;>split<;>first | omega | exact ih h3 h4
 | [],_::_,_,h,_,_,_=>by simp at h
 | _::_,[],_,h,_,_,_=>by simp at h
 | _::_,_::_,[],_,h,_,_=>by simp at h
 | [],[],_::_,_,h,_,_=>by simp at h
theorem Rn:∀ (a b:List Int),a.length=b.length→eD (a.zipWith (· - ·) b)=0→a=b
 | [],[],_,_=>rfl
 | x::a,y::b,h1,h2=>by
  simp only[List.zipWith_cons_cons,eD] at h2
  split at h2
  ·rename_i h;rw[Rn a b (by simpa using h1) h2];congr 1;omega
  rename_i h;exact absurd h2 h
 | [],_::_,h,_=>by simp at h
 | _::_,[],h,_=>by simp at h
theorem Dy:∀ (a b:List Int),a.length=b.length→eD (b.zipWith (· - ·) a) = - eD (a.zipWith (· - ·) b)
 | [],[],_=>rfl
 | x::a,y::b,h=>by
  have ih:=Dy a b (by simpa using h)
  simp only[List.zipWith_cons_cons,eD]
  split<;>split<;>omega
 | [],_::_,h=>by simp at h
 | _::_,[],h=>by simp at h
theorem Nt {α:Type} {K:α→List Int} {n:Nat} (hK:∀ a,(K a).length=n):Go.Sort.SWO (Go.Proofs.ltOf (bM K)) where
 irrefl x:=by
  unfold Go.Proofs.ltOf bM
  rw[Rm];rfl
 trans x y z h1 h2:=by
  have h1:=of_decide_eq_true h1
  have h2:=of_decide_eq_true h2
  exact decide_eq_true (Jf (K x) (K y) (K z) (by rw[hK,hK]) (by rw[hK,hK]) h1 h2)
 ntrans x y z h1 h2:=by
  have h1:=of_decide_eq_false h1
  have h2:=of_decide_eq_false h2
  exact decide_eq_false (Dz (K x) (K y) (K z) (by rw[hK,hK]) (by rw[hK,hK]) h1 h2)
theorem Qs {α:Type} {K:α→List Int} {n:Nat} (hK:∀ a,(K a).length=n) {a b:α} (h1:¬ bM K a b < 0) (h2:¬ bM K b a < 0):K a=K b:=by
 have h3:=Dy (K a) (K b) (by rw[hK,hK])
 unfold bM at h1 h2
 rw[h3] at h2
 exact Rn _ _ (by rw[hK,hK]) (by omega)
def bk {α:Type} (p:α→Bool) (l:List α):Nat:=(l.reverse.dropWhile p).length
theorem YC {α:Type} (p:α→Bool) (l:List α):bk p l≤l.length:=by
 unfold bk
 have:=(List.dropWhile_sublist (l:=l.reverse) p).length_le
 simpa using this
def AI {α:Type} (p:α→Bool) (l:List α) (x:α):List α:=l.take (bk p l)++[x]++l.drop (bk p l)
theorem aeN {α:Type} {step:Int→Option (Int⊕Int)} {l:List α} (p:α→Bool)
  (h:∀ (k:Nat) x,l[k]?=some x→step ((k:Int)+1)=some (if p x=true then .inl (k:Int) else .inr ((k:Int)+1))) (h0:step 0=some (.inr 0)) :
  aU step (l.length:Int)=some ((bk p l:Nat):Int):=by
 have key:∀ n,n≤l.length→aU step (n:Int)=some ((bk p (l.take n):Nat):Int):=by
  intro n
  induction n with
  | zero=>intro _;rw[show((0:Nat):Int)=0 from rfl,tf h0];rfl
  | succ n ih=>
   intro hn
   have hx:l[n]?=some l[n]:=List.getElem?_eq_getElem (by omega)
   have e:l.take (n+1)=l.take n++[l[n]]:=by rw[List.take_add_one,hx];rfl
   have hb:bk p (l.take (n+1))=if p l[n]=true then bk p (l.take n) else n+1:=by
    unfold bk
    rw[e,List.reverse_append,List.reverse_singleton,List.singleton_append,List.dropWhile_cons]
    split
    ·rfl
    simp;omega
   have hs:=h n _ hx
   rw[hb]
   by_cases hp:p l[n]=true
   ·rw[if_pos hp] at hs ⊢
    have:=ih (by omega)
    rw[←this];exact E5 hs
   rw[if_neg hp] at hs ⊢
   exact tf hs
 have:=key l.length (Nat.le_refl _)
 rwa [List.take_length] at this
theorem Ti {α:Type} (p:α→Bool) (l:List α) (x:α):(AI p l x).Perm (x::l):=by
 unfold AI
 have:(l.take (bk p l)++[x]++l.drop (bk p l)).Perm ([x]++l.take (bk p l)++l.drop (bk p l)):=(List.perm_append_comm).append_right _
 refine this.trans ?_
 simp
theorem UN {α:Type} {p:α→Bool} {y:α}:∀ {l:List α},y∈l.takeWhile p→p y=true
 | [],h=>by cases h
 | x::l,h=>by
  rw[List.takeWhile_cons] at h
  split at h
  ·rcases List.mem_cons.1 h with rfl | h
   ·assumption
   exact UN h
  cases h
theorem YD {α:Type} (p:α→Bool) (l:List α):(∀ y∈l.drop (bk p l),p y=true)∧(∀ (y:α),(l.take (bk p l)).getLast?=some y→p y=false):=by
 have e:l=(l.reverse.dropWhile p).reverse++(l.reverse.takeWhile p).reverse:=by
  rw[←List.reverse_append,List.takeWhile_append_dropWhile,List.reverse_reverse]
 have hlen:bk p l=(l.reverse.dropWhile p).reverse.length:=by simp[bk]
 have h1:l.take (bk p l)=(l.reverse.dropWhile p).reverse:=by
  rw[hlen];conv=>lhs;rw[e]
  simp
 have h2:l.drop (bk p l)=(l.reverse.takeWhile p).reverse:=by
  rw[hlen];conv=>lhs;rw[e]
  simp
 constructor
 ·intro y hy
  rw[h2,List.mem_reverse] at hy
  exact UN hy
 intro y hy
 rw[h1,List.getLast?_reverse] at hy
 have:=List.head?_dropWhile_not p l.reverse
 rw[hy] at this
 simpa using this
theorem acy {α:Type} {R:α→α→Prop} (tr:∀ a b c,R a b→R b c→R a c) {p:α→Bool} {l:List α} {x:α} (h:l.Pairwise R) (ht:∀ y∈l,p y=true→R x y) (hf:∀ y∈l,p y=false→R y x):(AI p l x).Pairwise R:=by
 obtain⟨s1,s2⟩:=YD p l
 have bA:∀ y∈l.take (bk p l),R y x:=by
  intro y hy
  have bc:l.take (bk p l)≠[]:=List.ne_nil_of_mem hy
  have lI:=s2 _ (List.getLast?_eq_some_getLast bc)
  have hm:(l.take (bk p l)).getLast bc∈l:=List.mem_of_mem_take (List.getLast_mem bc)
  have hx:=hf _ hm lI
  have lJ:(l.take (bk p l)).Pairwise R:=h.sublist (List.take_sublist _ _)
  by_cases he:y=(l.take (bk p l)).getLast bc
  ·rw[he];exact hx
  have hd:l.take (bk p l)=(l.take (bk p l)).dropLast++[(l.take (bk p l)).getLast bc]:=(List.dropLast_concat_getLast bc).symm
  rw[hd] at lJ
  have KP:y∈(l.take (bk p l)).dropLast:=by
   rw[hd] at hy
   rcases List.mem_append.1 hy with hy | hy
   ·exact hy
   simp at hy;exact absurd hy he
  exact tr _ _ _ ((List.pairwise_append.1 lJ).2.2 y KP _ (by simp)) hx
 have hl:(l.take (bk p l)++l.drop (bk p l)).Pairwise R:=by rw[List.take_append_drop];exact h
 rw[List.pairwise_append] at hl
 unfold AI
 rw[List.append_assoc,List.pairwise_append]
 refine⟨hl.1,?_,?_⟩
 ·rw[List.singleton_append,List.pairwise_cons]
  exact⟨fun y hy=>ht y (List.mem_of_mem_drop hy) (s1 y hy),hl.2.1⟩
 intro a ha b hb
 rw[List.singleton_append,List.mem_cons] at hb
 rcases hb with rfl | hb
 ·exact bA a ha
 exact hl.2.2 a ha b hb
abbrev nZ {α:Type} (m:List (Int×α)):List Int:=m.map (·.1)
theorem LZ {α:Type} (k:Int) (d:α):bB ([]:List (Int×α)) k d=d:=rfl
theorem ae9 {α:Type} (k:Int):fh ([]:List (Int×α)) k=false:=rfl
theorem x5 {α:Type} (p:Int×α) (m:List (Int×α)) (k:Int) (d:α):bB (p::m) k d=if p.1=k then p.2 else bB m k d:=by
 unfold bB
 rw[List.find?_cons]
 by_cases h:p.1=k
 ·rw[if_pos h,show(p.1 == k)=true by simpa using h];rfl
 rw[if_neg h,show(p.1 == k)=false by simpa using h]
theorem vM {α:Type} (p:Int×α) (m:List (Int×α)) (k:Int):fh (p::m) k=(decide (p.1=k)||fh m k):=by
 unfold fh
 rw[List.any_cons]
 congr 1
theorem A5 {α:Type} (n:Int):∀ (m:List (Int×α)),fh m n=true↔n∈nZ m
 | []=>by simp[fh]
 | p::m=>by
  rw[vM,Bool.or_eq_true,A5 n m,decide_eq_true_eq]
  simp only[nZ,List.map_cons,List.mem_cons]
  constructor<;>(rintro(h | h);exact .inl h.symm;exact .inr h)
theorem Fl {α:Type} (p:Int×α) (m:List (Int×α)) (k:Int) (v:α):bz (p::m) k v=if p.1=k then(k,v)::m else p::bz m k v:=rfl
theorem x6 {α:Type} (n:Int) (v:α) (k:Int) (z:α):∀ (m:List (Int×α)),bB (bz m n v) k z=if k=n then v else bB m k z
 | []=>by
  show bB [(n,v)] k z=_
  rw[x5,LZ]
  by_cases h:k=n
  ·rw[if_pos h,if_pos h.symm]
  rw[if_neg h,if_neg (Ne.symm h)]
 | p::m=>by
  have ih:=x6 n v k z m
  rw[Fl]
  by_cases h:p.1=n
  ·rw[if_pos h,x5,x5]
   by_cases h2:k=n
   ·rw[if_pos h2,if_pos h2.symm]
   rw[if_neg h2,if_neg (Ne.symm h2),if_neg (by rw[h];exact Ne.symm h2)]
  rw[if_neg h,x5,x5,ih]
  by_cases h2:k=n
  ·subst h2;rw[if_neg h,if_pos rfl,if_pos rfl]
  rw[if_neg h2,if_neg h2]
theorem Fi {α:Type} (n:Int) (v:α) (k:Int):∀ (m:List (Int×α)),fh (bz m n v) k=(decide (k=n)||fh m k)
 | []=>by
  show fh [(n,v)] k=_
  rw[vM,ae9]
  congr 1;exact decide_eq_decide.2 eq_comm
 | p::m=>by
  have ih:=Fi n v k m
  rw[Fl]
  by_cases h:p.1=n
  ·rw[if_pos h,vM,vM,h]
   rw[show decide (n=k)=decide (k=n) from decide_eq_decide.2 eq_comm]
   cases decide (k=n)<;>simp
  rw[if_neg h,vM,vM,ih]
  cases decide (p.1=k)<;>cases decide (k=n)<;>simp
theorem L4 {α:Type} (n:Int) (v:α):∀ (m:List (Int×α)),(bz m n v).length=if fh m n=true then m.length else m.length+1
 | []=>rfl
 | p::m=>by
  have ih:=L4 n v m
  rw[Fl,vM]
  by_cases h:p.1=n
  ·rw[if_pos h,if_pos (by simp[h])];rfl
  rw[if_neg h,List.length_cons,ih]
  simp only[h,decide_false,Bool.false_or]
  split<;>simp
theorem UU {α:Type} {n:Int} (v:α):∀ {m:List (Int×α)},n∉nZ m→bz m n v=m++[(n,v)]
 | [],_=>rfl
 | p::m,h=>by
  simp only[nZ,List.map_cons,List.mem_cons,not_or] at h
  rw[Fl,if_neg (Ne.symm h.1),UU v h.2];rfl
theorem US {α:Type} (n:Int) (v:α) (k:Int) (m:List (Int×α)):k∈nZ (bz m n v)↔k=n∨k∈nZ m:=by
 rw[←A5,Fi,Bool.or_eq_true,decide_eq_true_eq,A5]
theorem Jg {α ρ:Type} (bad:α→Bool) (id:α→Int) (r:ρ):∀ (l:List α) (z:List (Int×Bool)),fu (fun(z:List (Int×Bool)) x=>if bad x||bB z (id x) false then(.inr (.inr r):_⊕(Unit⊕ρ)) else .inl (bz z (id x) true)) (fun _=> .inl ()) l z =
  if(∀ x∈l,bad x=false)∧(l.map id).Nodup∧(∀ x∈l,bB z (id x) false=false) then .inl () else .inr r
 | [],z=>by simp[fu]
 | x::l,z=>by
  have ih:=Jg bad id r l (bz z (id x) true)
  simp only[fu]
  by_cases h:bad x||bB z (id x) false
  ·rw[if_pos h,if_neg]
   rintro⟨h1,_,h3⟩
   rw[h1 x (by simp),h3 x (by simp)] at h;cases h
  rw[if_neg h]
  simp only[Bool.or_eq_true,not_or,Bool.not_eq_true] at h
  dsimp only
  rw[ih]
  have e:((∀ y∈l,bad y=false)∧(l.map id).Nodup∧∀ y∈l,bB (bz z (id x) true) (id y) false=false)↔((∀ y∈x::l,bad y=false)∧((x::l).map id).Nodup∧∀ y∈x::l,bB z (id y) false=false):=by
   simp only[x6,List.mem_cons,List.map_cons,List.nodup_cons,List.mem_map]
   constructor
   ·rintro⟨h1,h2,h3⟩
    refine⟨?_,⟨?_,h2⟩,?_⟩
    ·rintro y (rfl | hy)
     ·exact h.1
     exact h1 y hy
    ·rintro⟨y,hy,he⟩
     have:=h3 y hy
     rw[if_pos he] at this;cases this
    rintro y (rfl | hy)
    ·exact h.2
    have:=h3 y hy
    split at this
    ·cases this
    exact this
   rintro⟨h1,⟨h2,h3⟩,h4⟩
   refine⟨fun y hy=>h1 y (.inr hy),h3,fun y hy=>?_⟩
   rw[if_neg fun e=>h2 ⟨y,hy,e⟩]
   exact h4 y (.inr hy)
  by_cases hc:((∀ y∈x::l,bad y=false)∧((x::l).map id).Nodup∧∀ y∈x::l,bB z (id y) false=false)
  ·rw[if_pos hc,if_pos (e.2 hc)]
  rw[if_neg hc,if_neg fun h=>hc (e.1 h)]
def iE {α:Type} (id:α→Int) (l:List α):List (Int×α):=l.map fun x=>(id x,x)
theorem oQ {σ ρ:Type} {step:σ→Option (σ⊕ρ)} {z z':σ} (h:step z=some (.inl z')):aU step z=aU step z':=E5 h
theorem kv {σ ρ:Type} {step:σ→Option (σ⊕ρ)} {z:σ} {r:ρ} (h:step z=some (.inr r)):aU step z=some r:=tf h
theorem lT (n lo hi:Int):aa (ab (leI lo n) (some (leI n hi)) (some false)) (fun v:Bool=>some v)=some (decide (lo≤n∧n≤hi)):=by
 by_cases h:lo≤n<;>simp[h,vr,af]
theorem mC {b:Bool} {p:Prop} [Decidable p] (h:b=true↔p):some b=some (decide p):=congrArg some (Bool.eq_iff_iff.2 (by rw[h,decide_eq_true_eq]))
theorem yZ (a b c:Bool):ab a (ab b (some c) (some false)) (some false)=some (a&&b&&c):=by cases a<;>cases b<;>rfl
theorem UA {α:Type} [DecidableEq α] {step:Int→Option (Int⊕(Unit⊕Bool))} {a b:List α} (hl:a.length=b.length)
  (h:∀ (k:Nat) x y,a[k]?=some x→b[k]?=some y→step (k:Int)=some (if x=y then .inl ((k+1:Nat):Int) else .inr (.inr false))) (dM:step (a.length:Int)=some (.inr (.inl ()))) :
  aU step 0=some (if a=b then .inl () else .inr false):=by
 rw[E7 a.length (fun k=> !decide (a[k]?=b[k]?)) false (fun k hk=>by
  have h1:a[k]?=some a[k]:=List.getElem?_eq_getElem hk
  have h2:b[k]?=some b[k]:=List.getElem?_eq_getElem (by omega)
  rw[h k _ _ h1 h2,h1,h2]
  by_cases he:a[k]=b[k]
  ·rw[if_pos he,if_neg (by simp[he])]
  rw[if_neg he,if_pos (by simp[he])]) dM]
 congr 1
 by_cases he:a=b
 ·rw[if_pos he,if_neg]
  subst he;simp
 rw[if_neg he,if_pos]
 refine Classical.byContradiction fun bS=>he (List.ext_getElem? fun k=>?_)
 by_cases hk:k < a.length
 ·refine Classical.byContradiction fun bc=>bS (List.any_eq_true.2 ⟨k,List.mem_range.2 hk,by simp[bc]⟩)
 rw[List.getElem?_eq_none (by omega),List.getElem?_eq_none (by omega)]
theorem yE {α:Type} [DecidableEq α] {beq:α→α→Bool} (hb:∀ a b,beq a b=decide (a=b)) {a b:List α} (ha:a.length≤1048576):(ab (!(ay (a.length:Int) (b.length:Int))) (some false) (cw (aU (fun v2:Int=>ab (aA v2 (a.length:Int)) (aa (av a v2) fun v3=>aa (av b v2) fun v4=>ab (!(beq v3 v4)) (some (.inr (.inr false))) (ar (az (v2+1)) <| some (.inl (v2+1)))) (some (.inr (.inl ())))) 0) fun(v2:Unit)=>some true))=some (decide (a=b)):=by
 by_cases hl:a.length=b.length
 ·rw[ak (by simp[hl]),UA hl (fun k x y h1 h2=>by
   have hk:=bU h1
   rw[ai (by simpa using hk),aX (aW h1),aX (aW h2),hb]
   by_cases he:x=y
   ·rw[ak (by simp[he]),aJ (by omega),if_pos he];rfl
   rw[ai (by simp[he]),if_neg he]) (by rw[ak (by simp)])]
  by_cases he:a=b
  ·rw[if_pos he,fQ];simp[he]
  rw[if_neg he,iK];simp[he]
 have:a≠b:=fun h=>hl (by rw[h])
 rw[ai (by simp;omega)];simp[this]
theorem Oc {α:Type} {step:Int→Option (Int⊕(Unit⊕Int))} {l:List α} (p:α→Bool)
  (h:∀ (k:Nat) x,l[k]?=some x→step (k:Int)=some (if p x=true then .inr (.inr (k:Int)) else .inl ((k+1:Nat):Int))) (dM:step (l.length:Int)=some (.inr (.inl ()))) :
  (aa (cw (aU step 0) fun _=>some (-1)) fun x=>some (leI 0 x))=some (l.any p):=by
 rw[vG p h dM,←Td]
 unfold ix
 cases l.findIdx? p<;>rfl
def x8 {α:Type} (r:α→α→Bool) (l:List α) (k:Nat):Bool:=match l[k]?,l[k+1]? with
 | some a,some b=>r a b
 | _,_=>true
def py {α:Type} (r:α→α→Bool) (l:List α):Bool:=(List.range (l.length - 1)).all (x8 r l)
theorem Iy {α:Type} {r:α→α→Bool} {l:List α}:py r l=true↔∀ (k:Nat) a b,l[k]?=some a→l[k+1]?=some b→r a b=true:=by
 unfold py
 rw[List.all_eq_true]
 constructor
 ·intro h k a b h1 h2
  have:=h k (List.mem_range.2 (by have:=bU h2;omega))
  unfold x8 at this
  rwa [h1,h2] at this
 intro h k hk
 unfold x8
 split
 ·rename_i a b h1 h2;exact h k a b h1 h2
 rfl
theorem aeO {α:Type} {step:Int→Option (Int⊕(Unit⊕Bool))} {l:List α} (r:α→α→Bool)
  (h:∀ (k:Nat) a b,l[k]?=some a→l[k+1]?=some b→step ((k:Int)+1)=some (if r a b=true then .inl (k:Int) else .inr (.inr false))) (h0:∀ z:Int,z≤0→step z=some (.inr (.inl ()))) :
  aU step ((l.length:Int) - 1)=some (if py r l=true then .inl () else .inr false):=by
 have key:∀ n,n < l.length→aU step (n:Int)=some (if(List.range n).all (x8 r l)=true then .inl () else .inr false):=by
  intro n
  induction n with
  | zero=>intro _;rw[tf (h0 _ (by simp))];rfl
  | succ n ih=>
   intro hn
   have h1:l[n]?=some l[n]:=List.getElem?_eq_getElem (by omega)
   have h2:l[n+1]?=some l[n+1]:=List.getElem?_eq_getElem hn
   have hs:=h n _ _ h1 h2
   have hg:x8 r l n=r l[n] l[n+1]:=by unfold x8;rw[h1,h2]
   rw[List.range_succ,List.all_append]
   simp only[List.all_cons,List.all_nil,Bool.and_true]
   rw[hg]
   by_cases hr:r l[n] l[n+1]=true
   ·rw[if_pos hr] at hs
    rw[hr,Bool.and_true,←ih (by omega)]
    exact E5 hs
   rw[if_neg hr] at hs
   rw[if_neg (by simp[hr])]
   exact tf hs
 unfold py
 by_cases hl:l.length=0
 ·rw[tf (h0 _ (by omega)),hl];rfl
 have:=key (l.length - 1) (by omega)
 rw[show((l.length - 1:Nat):Int)=(l.length:Int) - 1 by omega] at this
 exact this
theorem Iz {α:Type} {R:α→α→Prop} (tr:∀ a b c,R a b→R b c→R a c):∀ {l:List α},(∀ (k:Nat) a b,l[k]?=some a→l[k+1]?=some b→R a b)→l.Pairwise R
 | [],_=>List.Pairwise.nil
 | [a],_=>by simp
 | a::b::l,h=>by
  have ih:=Iz tr (l:=b::l) fun k x y h1 h2=>h (k+1) x y (by simpa using h1) (by simpa using h2)
  rw[List.pairwise_cons]
  refine⟨fun y hy=>?_,ih⟩
  have h0:=h 0 a b rfl rfl
  rcases List.mem_cons.1 hy with rfl | hy
  ·exact h0
  exact tr _ _ _ h0 ((List.pairwise_cons.1 ih).1 y hy)
theorem VT {α:Type} {R:α→α→Prop} {l:List α} (h:l.Pairwise R) (k:Nat) (a b:α) (h1:l[k]?=some a) (h2:l[k+1]?=some b):R a b:=by
 have hk:=bU h2
 have e1:a=l[k]:=by rw[List.getElem?_eq_getElem (by omega)] at h1;exact(Option.some.inj h1).symm
 have e2:b=l[k+1]:=by rw[List.getElem?_eq_getElem (by omega)] at h2;exact(Option.some.inj h2).symm
 rw[e1,e2]
 exact(List.pairwise_iff_getElem.1 h) k (k+1) (by omega) (by omega) (by omega)
theorem Rr {α β:Type} (id:α→Int) (g:α→β):∀ (l:List α) (z:List (Int×β)),(l.foldl (fun m x=>bz m (id x) (g x)) z).length≤z.length+l.length∧((l.foldl (fun m x=>bz m (id x) (g x)) z).length=z.length+l.length↔(l.map id).Nodup∧∀ x∈l,fh z (id x)=false)
 | [],z=>by simp
 | x::l,z=>by
  obtain⟨h1,h2⟩:=Rr id g l (bz z (id x) (g x))
  have hp:=L4 (id x) (g x) z
  rw[List.foldl_cons,List.length_cons]
  by_cases hc:fh z (id x)=true
  ·rw[if_pos hc] at hp
   refine⟨by omega,⟨fun h=>by omega,fun h=>?_⟩⟩
   have:=h.2 x (by simp)
   rw[hc] at this;cases this
  rw[if_neg hc] at hp
  refine⟨by omega,?_⟩
  rw[show(List.foldl (fun m x=>bz m (id x) (g x)) (bz z (id x) (g x)) l).length=z.length+(l.length+1)↔(List.foldl (fun m x=>bz m (id x) (g x)) (bz z (id x) (g x)) l).length=(bz z (id x) (g x)).length+l.length by omega,h2]
  simp only[List.map_cons,List.nodup_cons,List.mem_map,List.mem_cons,Fi]
  constructor
  ·rintro⟨g1,g2⟩
   refine⟨⟨?_,g1⟩,?_⟩
   ·rintro⟨y,hy,he⟩
    have:=g2 y hy
    simp[he] at this
   rintro y (rfl | hy)
   ·simpa using hc
   have:=g2 y hy
   simp at this;exact this.2
  rintro⟨⟨g0,g1⟩,g2⟩
  refine⟨g1,fun y hy=>?_⟩
  rw[decide_eq_false (fun e=>g0 ⟨y,hy,e⟩),g2 y (.inr hy)];rfl
end Go.Sy
namespace Go.Sy
open Go Go.aj Go.RowKit Go.Proofs Go.Sort
variable [aC] [cP] [dC]
@[reducible] noncomputable def QP (i:Nat) (d:dj.ek i) (hi:∀ x y:dj.ek i,aC.cells i x=aC.cells i y→x=y):cE (dj.ek i):=
 ⟨fun x=> .agg (aC.cells i x),fun z=>open Classical in if h:∃ x,D.agg (aC.cells i x)=z then Classical.choose h else d,aC.sz i,
  fun x=>by
  have h:∃ y,D.agg (aC.cells i y)=D.agg (aC.cells i x):=⟨x,rfl⟩
  have e:∀ (dec:Decidable (∃ y,D.agg (aC.cells i y)=D.agg (aC.cells i x))),(@dite _ _ dec (fun h=>Classical.choose h) fun _=>d)=x:=fun dec=>by
   rw[dif_pos h]
   have:=Classical.choose_spec h
   injection this with this
   exact hi _ _ this
  exact e _,
  fun x=>cP.len i x,fun x y hy=>cP.FD i x y hy⟩
open Classical in
noncomputable def Cc {α β:Type} (ok:β→α→Prop) (cf:β→α→α→Int) (a:List α×β):Option (List α):=
 if(∀ x∈a.1,ok a.2 x)∧pk (cf a.2) a.1∧a.1.length < 4611686018427387904 then some (qo (cf a.2) a.1) else none
theorem ai0 (D1:bh) [D0:bh] (uX:@bh.on D1) (JI:@bh.l8 D1=@bh.l8 D0) {P:Program} {g cmp i k:Nat} {t:Ty} (d:dj.ek i) (hi:∀ x y:dj.ek i,aC.cells i x=aC.cells i y→x=y) (hk:∀ x:dj.ek i,(aC.cells i x).length=k) (hsc:∀ (x:dj.ek i),∀ y∈aC.cells i x,tS y=true)
  {ok:t.den→dj.ek i→Prop} {cf:t.den→dj.ek i→dj.ek i→Int} (bc:∀ c,∃ x,ok c x) (hs:∀ c,SWO (ltOf (cf c)))
  (jU:∀ c x y,ok c x→ok c y→@gg D1 P cmp ([(Ty.st i).enc x,(Ty.st i).enc y]++(t.fU c).2) (.int .i64 (cf c x y)))
  (hZ:aj.Enters P g)
  (
   zW:∀ (e:Nat) (tu:dj.ek i→Prop) [Inhabited {x:dj.ek i // tu x}] (De:dj.ek i→dj.ek i→Int),SWO (ltOf De)→∀ (b c:Nat) (d:Array {x:dj.ek i // tu x}) (w:World) (vs:Array Value),CmpLays P cmp vs (fun x:{x:dj.ek i // tu x}=>(aC.cells i x.1).map vD) k (sr tu De) b 0 d.size w→HoldsK (fun x:{x:dj.ek i // tu x}=>(aC.cells i x.1).map vD) k w b 0 d→b < w.heap.size→d.size < 4611686018427387904 →
   Calls P g #[.slice (some ⟨b,0,none⟩) d.size c,.func (.func cmp) #[] vs] w fun e w'=>e = .returned (.tuple #[])∧∃ n os,w'=sortWorldK (fun x:{x:dj.ek i // tu x}=>(aC.cells i x.1).map vD) k w b 0 n (mD tu De d) os)
  (Ah:∀ (p:Option Addr) (c:Nat) (fv:Value) (w:World),Calls P g #[.slice p 0 c,fv] w fun e w'=>e = .returned (.tuple #[])∧w'=w) :
  ue P g (.st i) [.aL cmp t] (Cc ok cf):=by
 refine⟨hZ,dF rfl,fun a r hr l id e els ds JO hl=>?_⟩
 change List (dj.ek i)×t.den at a
 change List (dj.ek i) at r
 obtain⟨xs,c⟩:=a
 have hr:Cc ok cf (xs,c)=some r:=hr
 unfold Cc at hr
 split at hr
 ·rename_i hc
  injection hr with hr;subst hr
  obtain⟨h1,h2,h3⟩:=hc
  have h1:∀ x∈xs,ok c x:=h1
  have h2:pk (cf c) xs:=h2
  have h3:xs.length < 4611686018427387904:=h3
  have JO:[Ty.enc (.list (.st i)) xs,Ty.enc (.aL cmp t) c]=D.slice (Ty.st i).size els::ds:=JO
  injection JO with q1 q2
  subst q2
  have q1:D.slice (Ty.st i).size (xs.map (Ty.st i).enc)=D.slice (Ty.st i).size els:=q1
  injection q1 with _ q1
  subst q1
  have aK:(Ty.st i).size=k:=by rw[←hk d];exact(cP.len i d).symm
  rw[aK] at hl ⊢
  obtain⟨x0,sW⟩:=bc c
  haveI:Inhabited {x:dj.ek i // ok c x}:=⟨⟨x0,sW⟩⟩
  letI:cE (dj.ek i):=QP i d hi
  exact @aav (dj.ek i) (QP i d hi) D1 D0 uX JI P g cmp e k (t.fU c).2 (ok c) _ (cf c) ⟨fun x=>rfl,fun x=>hk x,fun x y hy=>hsc x y hy⟩ (hs c) (fun x y hx hy=>jU c x y hx hy)
   (zW e (ok c) (cf c) (hs c)) Ah l id xs hl h3 h1 h2
 cases hr
end Go.Sy
namespace Go.Proofs.YtfhkmedbfiphbaaGreatDoor
open Go Go.aj Go.Sy
def Hm:List (Nat×TI):=[(1,⟨1,8,[.aG],.aH⟩),
 (2,⟨1,8,[.int .i64 0],.eX .i64⟩),
 (3,⟨1,8,[.int .i64 0],.eX .i64⟩),
 (4,⟨1,1,[.bool false],.aH⟩),
 (5,⟨1,1,[.int .u8 0],.eX .u8⟩),
 (6,⟨1,1,[.int .u8 0],.eX .u8⟩),
 (7,⟨4,24,[.int .i64 0,.int .i64 0,.bool false,.int .u8 0],.struct [(0,2),(1,3),(2,4),(3,6)]⟩),
 (8,⟨4,24,[.int .i64 0,.int .i64 0,.bool false,.int .u8 0],.struct [(0,2),(1,3),(2,4),(3,6)]⟩),
 (9,⟨1,16,[.str ⟨#[]⟩],.string⟩),
 (10,⟨1,16,[.str ⟨#[]⟩],.string⟩),
 (11,⟨1,16,[.str ⟨#[]⟩],.string⟩),
 (12,⟨1,8,[.int .u64 0],.eX .u64⟩),
 (13,⟨2,24,[.str ⟨#[]⟩,.int .u64 0],.struct [(0,9),(1,12)]⟩),
 (14,⟨2,24,[.str ⟨#[]⟩,.int .u64 0],.struct [(0,9),(1,12)]⟩),
 (15,⟨1,8,[.eY],.aH⟩),
 (16,⟨1,8,[.eY],.aH⟩),
 (17,⟨1,8,[.eY],.aH⟩),
 (18,⟨1,8,[.eY],.struct [(0,17)]⟩),
 (19,⟨1,8,[.eY],.struct [(0,17)]⟩),
 (21,⟨1,4,[.int .i32 0],.eX .i32⟩),
 (22,⟨1,24,[.slice 4 []],.slice 120⟩),
 (23,⟨1,24,[.slice 13 []],.slice 53⟩),
 (24,⟨1,24,[.slice 12 []],.slice 60⟩),
 (25,⟨4,80,[.int .i64 0,.slice 4 [],.slice 13 [],.slice 12 []],.struct [(0,3),(1,22),(2,23),(3,24)]⟩),
 (26,⟨4,80,[.int .i64 0,.slice 4 [],.slice 13 [],.slice 12 []],.struct [(0,3),(1,22),(2,23),(3,24)]⟩),
 (27,⟨1,24,[.slice 5 []],.slice 72⟩),
 (28,⟨2,32,[.int .i64 0,.slice 5 []],.struct [(0,3),(1,27)]⟩),
 (29,⟨2,32,[.int .i64 0,.slice 5 []],.struct [(0,3),(1,27)]⟩),
 (30,⟨1,8,[.aG],.aH⟩),
 (31,⟨1,8,[.aG],.aH⟩),
 (32,⟨1,8,[.int .i64 0],.eX .i64⟩),
 (34,⟨1,8,[.aG],.aH⟩),
 (35,⟨1,8,[.aG],.aH⟩),
 (36,⟨1,24,[.slice 15 []],.slice 62⟩),
 (38,⟨1,8,[.aG],.aH⟩),
 (39,⟨1,8,[.aG],.aH⟩),
 (40,⟨1,8,[.aG],.aH⟩),
 (41,⟨1,8,[.aG],.aH⟩),
 (42,⟨1,24,[.slice 10 []],.slice 74⟩),
 (43,⟨1,8,[.aG],.aH⟩),
 (45,⟨1,8,[.aG],.aH⟩),
 (46,⟨1,8,[.aG],.aH⟩),
 (47,⟨1,8,[.aG],.aH⟩),
 (48,⟨2,16,[.int .i64 0,.int .i64 0],.struct [(0,3),(1,3)]⟩),
 (49,⟨2,16,[.int .i64 0,.int .i64 0],.struct [(0,3),(1,3)]⟩),
 (50,⟨3,24,[.int .i64 0,.int .i64 0,.int .i64 0],.struct [(0,3),(1,3),(2,3)]⟩),
 (51,⟨3,24,[.int .i64 0,.int .i64 0,.int .i64 0],.struct [(0,3),(1,3),(2,3)]⟩),
 (52,⟨13,104,[.int .i64 0,.int .i64 0,.int .i64 0,.int .i64 0,.int .i64 0,.int .i64 0,.int .i64 0,.int .i64 0,.int .i64 0,.int .i64 0,.int .i64 0,.int .i64 0,.int .i64 0],.struct [(0,3),(1,3),(2,3),(3,3),(4,3),(5,49),(7,51),(10,51)]⟩),
 (53,⟨13,104,[.int .i64 0,.int .i64 0,.int .i64 0,.int .i64 0,.int .i64 0,.int .i64 0,.int .i64 0,.int .i64 0,.int .i64 0,.int .i64 0,.int .i64 0,.int .i64 0,.int .i64 0],.struct [(0,3),(1,3),(2,3),(3,3),(4,3),(5,49),(7,51),(10,51)]⟩),
 (54,⟨1,8,[.aG],.aH⟩),
 (55,⟨1,8,[.aG],.aH⟩),
 (56,⟨1,8,[.map [] []],.map 3 4⟩),
 (57,⟨2,16,[.int .i64 0,.int .i64 0],.struct [(0,3),(1,3)]⟩),
 (58,⟨2,16,[.int .i64 0,.int .i64 0],.struct [(0,3),(1,3)]⟩),
 (59,⟨12,96,[.int .i64 0,.int .i64 0,.int .i64 0,.int .i64 0,.int .i64 0,.int .i64 0,.int .i64 0,.int .i64 0,.int .i64 0,.int .i64 0,.int .i64 0,.int .i64 0],.struct [(0,3),(1,3),(2,3),(3,3),(4,3),(5,58),(7,58),(9,51)]⟩),
 (60,⟨12,96,[.int .i64 0,.int .i64 0,.int .i64 0,.int .i64 0,.int .i64 0,.int .i64 0,.int .i64 0,.int .i64 0,.int .i64 0,.int .i64 0,.int .i64 0,.int .i64 0],.struct [(0,3),(1,3),(2,3),(3,3),(4,3),(5,58),(7,58),(9,51)]⟩),
 (61,⟨15,120,[.int .i64 0,.int .i64 0,.int .i64 0,.int .i64 0,.int .i64 0,.int .i64 0,.int .i64 0,.int .i64 0,.int .i64 0,.int .i64 0,.int .i64 0,.int .i64 0,.int .i64 0,.int .i64 0,.int .i64 0],.struct [(0,3),(1,3),(2,3),(3,60)]⟩),
 (62,⟨15,120,[.int .i64 0,.int .i64 0,.int .i64 0,.int .i64 0,.int .i64 0,.int .i64 0,.int .i64 0,.int .i64 0,.int .i64 0,.int .i64 0,.int .i64 0,.int .i64 0,.int .i64 0,.int .i64 0,.int .i64 0],.struct [(0,3),(1,3),(2,3),(3,60)]⟩),
 (63,⟨1,8,[.aG],.aH⟩),
 (64,⟨1,8,[.aG],.aH⟩),
 (65,⟨1,8,[.aG],.aH⟩),
 (67,⟨1,8,[.aG],.aH⟩),
 (68,⟨1,8,[.aG],.aH⟩),
 (69,⟨1,8,[.aG],.aH⟩),
 (70,⟨1,8,[.aG],.aH⟩),
 (71,⟨5,56,[.int .i64 0,.int .i64 0,.int .i64 0,.int .i64 0,.slice 10 []],.struct [(0,3),(1,3),(2,58),(4,42)]⟩),
 (72,⟨5,56,[.int .i64 0,.int .i64 0,.int .i64 0,.int .i64 0,.slice 10 []],.struct [(0,3),(1,3),(2,58),(4,42)]⟩),
 (73,⟨10,80,[.int .i64 0,.int .i64 0,.int .i64 0,.int .i64 0,.int .i64 0,.int .i64 0,.int .i64 0,.int .i64 0,.int .i64 0,.int .i64 0],.struct [(0,3),(1,3),(2,3),(3,58),(5,58),(7,51)]⟩),
 (74,⟨10,80,[.int .i64 0,.int .i64 0,.int .i64 0,.int .i64 0,.int .i64 0,.int .i64 0,.int .i64 0,.int .i64 0,.int .i64 0,.int .i64 0],.struct [(0,3),(1,3),(2,3),(3,58),(5,58),(7,51)]⟩),
 (75,⟨1,8,[.aG],.aH⟩),
 (76,⟨1,8,[.aG],.aH⟩),
 (77,⟨30,288,[.int .i64 0,.int .i64 0,.int .i64 0,.int .i64 0,.int .i64 0,.int .i64 0,.int .i64 0,.int .i64 0,.int .i64 0,.int .i64 0,.int .i64 0,.int .i64 0,.int .i64 0,.int .i64 0,.slice 4 [],.slice 13 [],.slice 12 [],.int .i64 0,.int .i64 0,.int .i64 0,.int .i64 0,.int .i64 0,.int .i64 0,.int .i64 0,.int .i64 0,.int .i64 0,.int .i64 0,.int .i64 0,.int .i64 0,.int .i64 0],.struct [(0,53),(13,26),(17,53)]⟩),
 (78,⟨30,288,[.int .i64 0,.int .i64 0,.int .i64 0,.int .i64 0,.int .i64 0,.int .i64 0,.int .i64 0,.int .i64 0,.int .i64 0,.int .i64 0,.int .i64 0,.int .i64 0,.int .i64 0,.int .i64 0,.slice 4 [],.slice 13 [],.slice 12 [],.int .i64 0,.int .i64 0,.int .i64 0,.int .i64 0,.int .i64 0,.int .i64 0,.int .i64 0,.int .i64 0,.int .i64 0,.int .i64 0,.int .i64 0,.int .i64 0,.int .i64 0],.struct [(0,53),(13,26),(17,53)]⟩),
 (79,⟨1,8,[.aG],.aH⟩),
 (81,⟨1,8,[.aG],.aH⟩),
 (82,⟨1,8,[.aG],.aH⟩),
 (83,⟨1,8,[.aG],.aH⟩),
 (84,⟨1,8,[.aG],.aH⟩),
 (86,⟨1,8,[.aG],.aH⟩),
 (88,⟨1,8,[.aG],.aH⟩),
 (89,⟨1,8,[.aG],.aH⟩),
 (90,⟨1,8,[.aG],.aH⟩),
 (91,⟨1,8,[.aG],.aH⟩),
 (92,⟨1,8,[.map [] []],.map 3 60⟩),
 (93,⟨1,8,[.aG],.aH⟩),
 (94,⟨1,24,[.slice 1 []],.slice 3⟩),
 (95,⟨1,8,[.aG],.aH⟩),
 (96,⟨1,8,[.aG],.aH⟩),
 (97,⟨1,8,[.aG],.aH⟩),
 (98,⟨1,8,[.aG],.aH⟩),
 (100,⟨1,8,[.aG],.aH⟩),
 (101,⟨13,104,[.int .i64 0,.int .i64 0,.int .i64 0,.int .i64 0,.int .i64 0,.int .i64 0,.int .i64 0,.int .i64 0,.int .i64 0,.int .i64 0,.int .i64 0,.int .i64 0,.int .i64 0],.struct [(0,53)]⟩),
 (102,⟨13,104,[.int .i64 0,.int .i64 0,.int .i64 0,.int .i64 0,.int .i64 0,.int .i64 0,.int .i64 0,.int .i64 0,.int .i64 0,.int .i64 0,.int .i64 0,.int .i64 0,.int .i64 0],.struct [(0,53)]⟩),
 (104,⟨1,8,[.aG],.aH⟩),
 (105,⟨1,8,[.aG],.aH⟩),
 (106,⟨1,8,[.aG],.aH⟩),
 (107,⟨1,8,[.aG],.aH⟩),
 (108,⟨1,8,[.aG],.aH⟩),
 (109,⟨1,8,[.aG],.aH⟩),
 (110,⟨1,8,[.aG],.aH⟩),
 (111,⟨1,8,[.aG],.aH⟩),
 (112,⟨1,8,[.aG],.aH⟩),
 (113,⟨1,8,[.aG],.aH⟩),
 (114,⟨1,8,[.aG],.aH⟩),
 (115,⟨1,8,[.aG],.aH⟩),
 (116,⟨1,8,[.aG],.aH⟩),
 (118,⟨1,8,[.aG],.aH⟩),
 (119,⟨4,32,[.int .i64 0,.int .i64 0,.int .i64 0,.int .i64 0],.struct [(0,3),(1,58),(3,3)]⟩),
 (120,⟨4,32,[.int .i64 0,.int .i64 0,.int .i64 0,.int .i64 0],.struct [(0,3),(1,58),(3,3)]⟩),
 (122,⟨1,8,[.aG],.aH⟩),
 (123,⟨1,8,[.aG],.aH⟩),
 (124,⟨1,8,[.aG],.aH⟩),
 (125,⟨1,8,[.aG],.aH⟩),
 (126,⟨1,8,[.aG],.aH⟩),
 (127,⟨1,8,[.aG],.aH⟩),
 (128,⟨1,8,[.aG],.aH⟩),
 (129,⟨1,8,[.aG],.aH⟩),
 (130,⟨1,8,[.aG],.aH⟩),
 (132,⟨1,8,[.aG],.aH⟩),
 (133,⟨1,8,[.aG],.aH⟩),
 (134,⟨1,8,[.aG],.aH⟩),
 (135,⟨1,8,[.aG],.aH⟩),
 (136,⟨1,8,[.aG],.aH⟩),
 (137,⟨1,8,[.aG],.aH⟩),
 (138,⟨1,8,[.aG],.aH⟩),
 (139,⟨1,8,[.aG],.aH⟩),
 (140,⟨1,8,[.aG],.aH⟩),
 (141,⟨1,8,[.aG],.aH⟩),
 (142,⟨1,8,[.aG],.aH⟩),
 (143,⟨1,8,[.aG],.aH⟩),
 (144,⟨1,8,[.aG],.aH⟩),
 (145,⟨1,8,[.aG],.aH⟩),
 (146,⟨1,8,[.aG],.aH⟩),
 (147,⟨1,8,[.aG],.aH⟩),
 (148,⟨1,8,[.aG],.aH⟩),
 (149,⟨1,8,[.aG],.aH⟩),
 (150,⟨1,8,[.aG],.aH⟩),
 (151,⟨1,8,[.aG],.aH⟩),
 (152,⟨1,8,[.aG],.aH⟩),
 (153,⟨1,8,[.map [] []],.map 3 53⟩),
 (155,⟨1,8,[.aG],.aH⟩),
 (156,⟨1,8,[.map [] []],.map 3 3⟩),
 (157,⟨1,8,[.aG],.aH⟩),
 (158,⟨1,8,[.aG],.aH⟩),
 (159,⟨1,8,[.aG],.aH⟩),
 (160,⟨1,8,[.aG],.aH⟩),
 (161,⟨1,8,[.aG],.aH⟩),
 (162,⟨1,8,[.aG],.aH⟩),
 (163,⟨1,8,[.aG],.aH⟩),
 (164,⟨1,8,[.aG],.aH⟩),
 (165,⟨1,8,[.aG],.aH⟩),
 (166,⟨1,8,[.aG],.aH⟩),
 (167,⟨1,8,[.aG],.aH⟩),
 (169,⟨1,8,[.aG],.aH⟩),
 (170,⟨1,8,[.aG],.aH⟩),
 (172,⟨1,8,[.aG],.aH⟩),
 (173,⟨1,8,[.aG],.aH⟩),
 (174,⟨1,8,[.aG],.aH⟩),
 (175,⟨1,8,[.aG],.aH⟩),
 (176,⟨1,8,[.aG],.aH⟩),
 (177,⟨1,8,[.aG],.aH⟩),
 (179,⟨1,8,[.aG],.aH⟩),
 (180,⟨1,8,[.aG],.aH⟩),
 (181,⟨1,8,[.aG],.aH⟩),
 (182,⟨1,8,[.aG],.aH⟩),
 (183,⟨1,8,[.aG],.aH⟩),
 (184,⟨1,8,[.aG],.aH⟩),
 (185,⟨1,8,[.int .u64 0],.eX .u64⟩),
 (186,⟨1,8,[.aG],.aH⟩),
 (187,⟨1,8,[.aG],.aH⟩),
 (188,⟨1,8,[.aG],.aH⟩),
 (189,⟨1,8,[.aG],.aH⟩),
 (190,⟨1,8,[.aG],.aH⟩),
 (191,⟨1,8,[.aG],.aH⟩),
 (192,⟨1,8,[.aG],.aH⟩),
 (193,⟨1,8,[.aG],.aH⟩),
 (195,⟨1,8,[.aG],.aH⟩),
 (197,⟨1,8,[.aG],.aH⟩),
 (199,⟨1,8,[.aG],.aH⟩),
 (201,⟨1,8,[.aG],.aH⟩),
 (202,⟨1,8,[.aG],.aH⟩),
 (203,⟨1,8,[.aG],.aH⟩),
 (204,⟨1,8,[.int .i64 0],.eX .i64⟩),
 (206,⟨1,8,[.aG],.aH⟩),
 (207,⟨1,8,[.aG],.aH⟩),
 (208,⟨1,8,[.aG],.aH⟩),
 (209,⟨1,8,[.aG],.aH⟩),
 (210,⟨1,8,[.aG],.aH⟩),
 (211,⟨1,8,[.aG],.aH⟩),
 (212,⟨1,4,[.int .u32 0],.eX .u32⟩),
 (213,⟨1,8,[.aG],.aH⟩),
 (214,⟨1,8,[.int .u64 0],.eX .u64⟩),
 (215,⟨2,16,[.int .i64 0,.int .i64 0],.struct [(0,3),(1,3)]⟩),
 (216,⟨2,16,[.int .i64 0,.int .i64 0],.struct [(0,3),(1,3)]⟩),
 (217,⟨1,8,[.aG],.aH⟩),
 (218,⟨1,8,[.aG],.aH⟩),
 (219,⟨1,8,[.aG],.aH⟩),
 (220,⟨1,8,[.aG],.aH⟩),
 (221,⟨7,56,[.int .i64 0,.int .i64 0,.int .i64 0,.int .i64 0,.int .i64 0,.int .i64 0,.int .i64 0],.array 7 3⟩),
 (222,⟨1,8,[.int .u64 0],.eX .u64⟩),
 (223,⟨1,8,[.aG],.aH⟩),
 (224,⟨1,8,[.aG],.aH⟩),
 (225,⟨1,8,[.aG],.aH⟩),
 (226,⟨1,8,[.eY],.aH⟩),
 (227,⟨1,8,[.aG],.aH⟩),
 (228,⟨1,8,[.aG],.aH⟩),
 (229,⟨1,8,[.aG],.aH⟩),
 (230,⟨1,8,[.aG],.aH⟩),
 (231,⟨1,8,[.aG],.aH⟩),
 (232,⟨1,8,[.aG],.aH⟩),
 (233,⟨1,8,[.eY],.aH⟩),
 (234,⟨1,8,[.aG],.aH⟩),
 (235,⟨1,8,[.aG],.aH⟩),
 (236,⟨1,8,[.aG],.aH⟩),
 (237,⟨1,8,[.aG],.aH⟩),
 (238,⟨1,8,[.aG],.aH⟩),
 (239,⟨4,40,[.eY,.eY,.eY,.str ⟨#[]⟩],.struct [(0,17),(1,17),(2,17),(3,9)]⟩),
 (240,⟨4,40,[.eY,.eY,.eY,.str ⟨#[]⟩],.struct [(0,17),(1,17),(2,17),(3,9)]⟩),
 (241,⟨0,0,[],.array 0 16⟩),
 (242,⟨0,0,[],.struct [(0,241)]⟩),
 (243,⟨0,0,[],.struct [(0,241)]⟩),
 (244,⟨1,8,[.aG],.aH⟩),
 (245,⟨1,1,[.int .u8 0],.eX .u8⟩),
 (246,⟨1,1,[.int .u8 0],.eX .u8⟩),
 (247,⟨1,8,[.aG],.aH⟩),
 (248,⟨1,8,[.eY],.aH⟩),
 (249,⟨1,4,[.int .i32 0],.eX .i32⟩),
 (250,⟨1,4,[.int .i32 0],.eX .i32⟩),
 (251,⟨11,48,[.int .u64 0,.int .u64 0,.int .u32 0,.int .u8 0,.int .u8 0,.int .u8 0,.int .u8 0,.aG,.eY,.int .i32 0,.int .i32 0],.struct [(0,12),(1,12),(2,212),(3,245),(4,5),(5,5),(6,246),(7,247),(8,248),(9,249),(10,250)]⟩),
 (252,⟨11,48,[.int .u64 0,.int .u64 0,.int .u32 0,.int .u8 0,.int .u8 0,.int .u8 0,.int .u8 0,.aG,.eY,.int .i32 0,.int .i32 0],.struct [(0,12),(1,12),(2,212),(3,245),(4,5),(5,5),(6,246),(7,247),(8,248),(9,249),(10,250)]⟩),
 (253,⟨1,8,[.aG],.aH⟩)]
def r9:cA:=fun t=>(Hm.find? fun p=>Nat.beq p.1 t).map (·.2)
structure Rat where
 n:Int
 d:Int
 deriving DecidableEq
structure aD where
 id:Int
 length:Rat
 key:Int
 deriving DecidableEq
structure Interval where
 steps:Int
 bG:Int
 deriving DecidableEq
structure aE where
 step:Int
 alter:Int
 au:Int
 deriving DecidableEq
structure Part where
 id:Int
 mA:Int
 of:Int
 au:Int
 ma:Int
 shift:Interval
 low:aE
 high:aE
 deriving DecidableEq
structure ag where
 id:Int
 part:Int
 aZ:Int
 bm:Int
 bH:Int
 start:Rat
 length:Rat
 aM:aE
 deriving DecidableEq
structure Score where
 version:Int
 bars:(List aD)
 parts:(List Part)
 notes:(List ag)
 deriving DecidableEq
structure Written where
 id:Int
 bm:Int
 bH:Int
 start:Rat
 length:Rat
 aM:aE
 deriving DecidableEq
structure br where
 aZ:Int
 key:Int
 length:Rat
 notes:(List Written)
 deriving DecidableEq
structure View where
 part:Int
 bg:(List br)
 deriving DecidableEq
structure bj where
 kind:Int
 clock:Int
 mc:Int
 note:ag
 deriving DecidableEq
structure oo where
 part:Part
 of:Score
 owner:Part
 deriving DecidableEq
structure Reader where
 part:Part
 deriving DecidableEq
structure Fraction where
 n:Int
 d:Int
 deriving DecidableEq
def ek:Nat→Type
 | 0=>Rat
 | 1=>aD
 | 2=>Interval
 | 3=>aE
 | 4=>Part
 | 5=>ag
 | 6=>Score
 | 7=>Written
 | 8=>br
 | 9=>View
 | 10=>bj
 | 11=>oo
 | 12=>Reader
 | 13=>Fraction
 | _+14=>Unit
instance:dj:=⟨ek⟩
def cB:Nat→List Ty
 | 0=>[.int .i64,.int .i64]
 | 1=>[.int .i64,.st 0,.int .i64]
 | 2=>[.int .i64,.int .i64]
 | 3=>[.int .i64,.int .i64,.int .i64]
 | 4=>[.int .i64,.int .i64,.int .i64,.int .i64,.int .i64,.st 2,.st 3,.st 3]
 | 5=>[.int .i64,.int .i64,.int .i64,.int .i64,.int .i64,.st 0,.st 0,.st 3]
 | 6=>[.int .i64,.list (.st 1),.list (.st 4),.list (.st 5)]
 | 7=>[.int .i64,.int .i64,.int .i64,.st 0,.st 0,.st 3]
 | 8=>[.int .i64,.int .i64,.st 0,.list (.st 7)]
 | 9=>[.int .i64,.list (.st 8)]
 | 10=>[.int .i64,.int .i64,.int .i64,.st 5]
 | 11=>[.st 4,.st 6,.st 4]
 | 12=>[.st 4]
 | 13=>[.int .i64,.int .i64]
 | _+14=>[]
def szs:Nat→Nat
 | 0=>2
 | 1=>4
 | 2=>2
 | 3=>3
 | 4=>13
 | 5=>12
 | 6=>4
 | 7=>10
 | 8=>5
 | 9=>2
 | 10=>15
 | 11=>30
 | 12=>13
 | 13=>2
 | _+14=>0
def un:∀ i,ek i→(aQ (cB i)).den
 | 0=>fun(x:Rat)=>(x.n,x.d)
 | 1=>fun(x:aD)=>(x.id,x.length,x.key)
 | 2=>fun(x:Interval)=>(x.steps,x.bG)
 | 3=>fun(x:aE)=>(x.step,x.alter,x.au)
 | 4=>fun(x:Part)=>(x.id,x.mA,x.of,x.au,x.ma,x.shift,x.low,x.high)
 | 5=>fun(x:ag)=>(x.id,x.part,x.aZ,x.bm,x.bH,x.start,x.length,x.aM)
 | 6=>fun(x:Score)=>(x.version,x.bars,x.parts,x.notes)
 | 7=>fun(x:Written)=>(x.id,x.bm,x.bH,x.start,x.length,x.aM)
 | 8=>fun(x:br)=>(x.aZ,x.key,x.length,x.notes)
 | 9=>fun(x:View)=>(x.part,x.bg)
 | 10=>fun(x:bj)=>(x.kind,x.clock,x.mc,x.note)
 | 11=>fun(x:oo)=>(x.part,x.of,x.owner)
 | 12=>fun(x:Reader)=>(x.part)
 | 13=>fun(x:Fraction)=>(x.n,x.d)
 | _+14=>fun _=>()
def fD:∀ i,(aQ (cB i)).den→ek i
 | 0=>fun x=>(⟨x.1,x.2⟩:Rat)
 | 1=>fun x=>(⟨x.1,x.2.1,x.2.2⟩:aD)
 | 2=>fun x=>(⟨x.1,x.2⟩:Interval)
 | 3=>fun x=>(⟨x.1,x.2.1,x.2.2⟩:aE)
 | 4=>fun x=>(⟨x.1,x.2.1,x.2.2.1,x.2.2.2.1,x.2.2.2.2.1,x.2.2.2.2.2.1,x.2.2.2.2.2.2.1,x.2.2.2.2.2.2.2⟩:Part)
 | 5=>fun x=>(⟨x.1,x.2.1,x.2.2.1,x.2.2.2.1,x.2.2.2.2.1,x.2.2.2.2.2.1,x.2.2.2.2.2.2.1,x.2.2.2.2.2.2.2⟩:ag)
 | 6=>fun x=>(⟨x.1,x.2.1,x.2.2.1,x.2.2.2⟩:Score)
 | 7=>fun x=>(⟨x.1,x.2.1,x.2.2.1,x.2.2.2.1,x.2.2.2.2.1,x.2.2.2.2.2⟩:Written)
 | 8=>fun x=>(⟨x.1,x.2.1,x.2.2.1,x.2.2.2⟩:br)
 | 9=>fun x=>(⟨x.1,x.2⟩:View)
 | 10=>fun x=>(⟨x.1,x.2.1,x.2.2.1,x.2.2.2⟩:bj)
 | 11=>fun x=>(⟨x.1,x.2.1,x.2.2⟩:oo)
 | 12=>fun x=>(⟨x⟩:Reader)
 | 13=>fun x=>(⟨x.1,x.2⟩:Fraction)
 | _+14=>fun _=>()
def Iq (x:Rat):List D:=[.int .i64 x.n,.int .i64 x.d]
def zi (x:aD):List D:=[.int .i64 x.id,.int .i64 x.length.n,.int .i64 x.length.d,.int .i64 x.key]
def It (x:Interval):List D:=[.int .i64 x.steps,.int .i64 x.bG]
def Iu (x:aE):List D:=[.int .i64 x.step,.int .i64 x.alter,.int .i64 x.au]
def zj (x:Part):List D:=[.int .i64 x.id,.int .i64 x.mA,.int .i64 x.of,.int .i64 x.au,.int .i64 x.ma,.int .i64 x.shift.steps,.int .i64 x.shift.bG,.int .i64 x.low.step,.int .i64 x.low.alter,.int .i64 x.low.au,.int .i64 x.high.step,.int .i64 x.high.alter,.int .i64 x.high.au]
def zk (x:ag):List D:=[.int .i64 x.id,.int .i64 x.part,.int .i64 x.aZ,.int .i64 x.bm,.int .i64 x.bH,.int .i64 x.start.n,.int .i64 x.start.d,.int .i64 x.length.n,.int .i64 x.length.d,.int .i64 x.aM.step,.int .i64 x.aM.alter,.int .i64 x.aM.au]
def Y4 (x:Score):List D:=[.int .i64 x.version,.slice 4 (List.map (fun y=>D.agg (zi y)) x.bars),.slice 13 (List.map (fun y=>D.agg (zj y)) x.parts),.slice 12 (List.map (fun y=>D.agg (zk y)) x.notes)]
def Dc (x:Written):List D:=[.int .i64 x.id,.int .i64 x.bm,.int .i64 x.bH,.int .i64 x.start.n,.int .i64 x.start.d,.int .i64 x.length.n,.int .i64 x.length.d,.int .i64 x.aM.step,.int .i64 x.aM.alter,.int .i64 x.aM.au]
def Qr (x:br):List D:=[.int .i64 x.aZ,.int .i64 x.key,.int .i64 x.length.n,.int .i64 x.length.d,.slice 10 (List.map (fun y=>D.agg (Dc y)) x.notes)]
def Y5 (x:View):List D:=[.int .i64 x.part,.slice 5 (List.map (fun y=>D.agg (Qr y)) x.bg)]
def Ir (x:bj):List D:=[.int .i64 x.kind,.int .i64 x.clock,.int .i64 x.mc,.int .i64 x.note.id,.int .i64 x.note.part,.int .i64 x.note.aZ,.int .i64 x.note.bm,.int .i64 x.note.bH,.int .i64 x.note.start.n,.int .i64 x.note.start.d,.int .i64 x.note.length.n,.int .i64 x.note.length.d,.int .i64 x.note.aM.step,.int .i64 x.note.aM.alter,.int .i64 x.note.aM.au]
def Y2 (x:oo):List D:=[.int .i64 x.part.id,.int .i64 x.part.mA,.int .i64 x.part.of,.int .i64 x.part.au,.int .i64 x.part.ma,.int .i64 x.part.shift.steps,.int .i64 x.part.shift.bG,.int .i64 x.part.low.step,.int .i64 x.part.low.alter,.int .i64 x.part.low.au,.int .i64 x.part.high.step,.int .i64 x.part.high.alter,.int .i64 x.part.high.au,.int .i64 x.of.version,.slice 4 (List.map (fun y=>D.agg (zi y)) x.of.bars),.slice 13 (List.map (fun y=>D.agg (zj y)) x.of.parts),.slice 12 (List.map (fun y=>D.agg (zk y)) x.of.notes),.int .i64 x.owner.id,.int .i64 x.owner.mA,.int .i64 x.owner.of,.int .i64 x.owner.au,.int .i64 x.owner.ma,.int .i64 x.owner.shift.steps,.int .i64 x.owner.shift.bG,.int .i64 x.owner.low.step,.int .i64 x.owner.low.alter,.int .i64 x.owner.low.au,.int .i64 x.owner.high.step,.int .i64 x.owner.high.alter,.int .i64 x.owner.high.au]
def Y3 (x:Reader):List D:=[.int .i64 x.part.id,.int .i64 x.part.mA,.int .i64 x.part.of,.int .i64 x.part.au,.int .i64 x.part.ma,.int .i64 x.part.shift.steps,.int .i64 x.part.shift.bG,.int .i64 x.part.low.step,.int .i64 x.part.low.alter,.int .i64 x.part.low.au,.int .i64 x.part.high.step,.int .i64 x.part.high.alter,.int .i64 x.part.high.au]
def Is (x:Fraction):List D:=[.int .i64 x.n,.int .i64 x.d]
abbrev HE (a b:Rat):Bool:=dJ (Iq a) (Iq b)
abbrev Ow (a b:aD):Bool:=dJ (zi a) (zi b)
abbrev Oy (a b:Interval):Bool:=dJ (It a) (It b)
abbrev Yy (a b:aE):Bool:=dJ (Iu a) (Iu b)
abbrev Oz (a b:Part):Bool:=dJ (zj a) (zj b)
abbrev iR (a b:ag):Bool:=dJ (zk a) (zk b)
abbrev OB (a b:Written):Bool:=dJ (Dc a) (Dc b)
abbrev CS (a b:bj):Bool:=dJ (Ir a) (Ir b)
abbrev Ox (a b:Fraction):Bool:=dJ (Is a) (Is b)
def cells:∀ i,ek i→List D
 | 0=>Iq
 | 1=>zi
 | 2=>It
 | 3=>Iu
 | 4=>zj
 | 5=>zk
 | 6=>Y4
 | 7=>Dc
 | 8=>Qr
 | 9=>Y5
 | 10=>Ir
 | 11=>Y2
 | 12=>Y3
 | 13=>Is
 | _+14=>fun _=>[]
theorem sd:∀ i x,un i (fD i x)=x
 | 0,_=>rfl
 | 1,_=>rfl
 | 2,_=>rfl
 | 3,_=>rfl
 | 4,_=>rfl
 | 5,_=>rfl
 | 6,_=>rfl
 | 7,_=>rfl
 | 8,_=>rfl
 | 9,_=>rfl
 | 10,_=>rfl
 | 11,_=>rfl
 | 12,_=>rfl
 | 13,_=>rfl
 | _+14,_=>rfl
theorem L3:∀ i x,fD i (un i x)=x
 | 0,_=>rfl
 | 1,_=>rfl
 | 2,_=>rfl
 | 3,_=>rfl
 | 4,_=>rfl
 | 5,_=>rfl
 | 6,_=>rfl
 | 7,_=>rfl
 | 8,_=>rfl
 | 9,_=>rfl
 | 10,_=>rfl
 | 11,_=>rfl
 | 12,_=>rfl
 | 13,_=>rfl
 | _+14,_=>rfl
def afh:List Int:=[0,2,4,5,7,9,11]
def sG:Nat→Option (List Int):=fun g=>bif Nat.beq g 0 then some afh else none
instance:aC:=⟨cB,szs,un,fD,cells,sd,L3,sG⟩
def fG:List (Nat×Ty):=[(2,.int .i64),(3,.int .i64),(4,.bool),(5,.int .u8),(6,.int .u8),(9,.str),(10,.str),(11,.str),(12,.int .u64),(21,.int .i32),(22,.list (.st 1)),(23,.list (.st 4)),(24,.list (.st 5)),(25,.st 6),(26,.st 6),(27,.list (.st 8)),(28,.st 9),(29,.st 9),(32,.int .i64),(36,.list (.st 10)),(42,.list (.st 7)),(48,.st 2),(49,.st 2),(50,.st 3),(51,.st 3),(52,.st 4),(53,.st 4),(56,.map (.int .i64) (.bool)),(57,.st 0),(58,.st 0),(59,.st 5),(60,.st 5),(61,.st 10),(62,.st 10),(71,.st 8),(72,.st 8),(73,.st 7),(74,.st 7),(77,.st 11),(78,.st 11),(92,.map (.int .i64) (.st 5)),(94,.list (.int .i64)),(101,.st 12),(102,.st 12),(119,.st 1),(120,.st 1),(153,.map (.int .i64) (.st 4)),(156,.map (.int .i64) (.int .i64)),(185,.int .u64),(204,.int .i64),(212,.int .u32),(214,.int .u64),(215,.st 13),(216,.st 13),(222,.int .u64),(245,.int .u8),(246,.int .u8),(249,.int .i32),(250,.int .i32)]
def ai1:TypeId→Option Ty:=fun t=>(fG.find? fun p=>Nat.beq p.1 t).map (·.2)
end Go.Proofs.YtfhkmedbfiphbaaGreatDoor
namespace Go.Proofs.YtfhkmedbfiphbaaGreatDoor
open Go Go.aj Go.Sy
theorem aix:∀ i a,aC.cells i a=cellsOf (aC.cB i) (aC.un i a)
 | 0,_=>rfl
 | 1,_=>rfl
 | 2,_=>rfl
 | 3,_=>rfl
 | 4,_=>rfl
 | 5,_=>rfl
 | 6,_=>rfl
 | 7,_=>rfl
 | 8,_=>rfl
 | 9,_=>rfl
 | 10,_=>rfl
 | 11,_=>rfl
 | 12,_=>rfl
 | 13,_=>rfl
 | _+14,_=>rfl
theorem aiy:∀ i a,(aC.cells i a).length=aC.sz i
 | 0,_=>rfl
 | 1,_=>rfl
 | 2,_=>rfl
 | 3,_=>rfl
 | 4,_=>rfl
 | 5,_=>rfl
 | 6,_=>rfl
 | 7,_=>rfl
 | 8,_=>rfl
 | 9,_=>rfl
 | 10,_=>rfl
 | 11,_=>rfl
 | 12,_=>rfl
 | 13,_=>rfl
 | _+14,_=>rfl
theorem aiz:∀ i a,(aC.cells i a).all D.one=true
 | 0,_=>rfl
 | 1,_=>rfl
 | 2,_=>rfl
 | 3,_=>rfl
 | 4,_=>rfl
 | 5,_=>rfl
 | 6,_=>rfl
 | 7,_=>rfl
 | 8,_=>rfl
 | 9,_=>rfl
 | 10,_=>rfl
 | 11,_=>rfl
 | 12,_=>rfl
 | 13,_=>rfl
 | _+14,_=>rfl
instance:cP:=⟨aix,aiy,fun i a=>List.all_eq_true.1 (aiz i a)⟩
theorem aiA:∀ i,(aC.cB i).all fP=true
 | 0=>rfl
 | 1=>rfl
 | 2=>rfl
 | 3=>rfl
 | 4=>rfl
 | 5=>rfl
 | 6=>rfl
 | 7=>rfl
 | 8=>rfl
 | 9=>rfl
 | 10=>rfl
 | 11=>rfl
 | 12=>rfl
 | 13=>rfl
 | _+14=>rfl
instance:dC:=haveI:bh:=⟨True,fun _=>none⟩;⟨fun i t h=>dF (List.all_eq_true.1 (aiA i) t h)⟩
class pn where
 on:Prop
def aiJ:Nat→Option D:=fun g=>(sG g).map fun l=> .agg (l.map (.int .i64))
instance IL [pn]:bh:=⟨pn.on,aiJ⟩
instance [pn]:qE:=⟨fun g ls h=>by show(sG g).map _=_;rw[show sG g=some ls from h];rfl⟩
variable [pn]
theorem ai2:Hm.all (fun p=>Cl Tryz.prog p.1 p.2)=true:=by kernel_rfl
theorem Xs:cp Tryz.prog r9:=by
 have h:=cp.Mg ai2
 have e:(fun t=>(Hm.find? fun p=>p.1 == t).map (·.2))=r9:=by funext t;exact congrArg (Option.map Prod.snd) (I7 Hm t)
 rw[←e];exact h
def Dr:List (Nat×List Lf):=[(4,[.bool]),(58,[.int .i64,.int .i64]),(120,[.int .i64,.int .i64,.int .i64,.int .i64]),(49,[.int .i64,.int .i64]),(51,[.int .i64,.int .i64,.int .i64]),(53,[.int .i64,.int .i64,.int .i64,.int .i64,.int .i64,.int .i64,.int .i64,.int .i64,.int .i64,.int .i64,.int .i64,.int .i64,.int .i64]),(60,[.int .i64,.int .i64,.int .i64,.int .i64,.int .i64,.int .i64,.int .i64,.int .i64,.int .i64,.int .i64,.int .i64,.int .i64]),(74,[.int .i64,.int .i64,.int .i64,.int .i64,.int .i64,.int .i64,.int .i64,.int .i64,.int .i64,.int .i64]),(62,[.int .i64,.int .i64,.int .i64,.int .i64,.int .i64,.int .i64,.int .i64,.int .i64,.int .i64,.int .i64,.int .i64,.int .i64,.int .i64,.int .i64,.int .i64]),(102,[.int .i64,.int .i64,.int .i64,.int .i64,.int .i64,.int .i64,.int .i64,.int .i64,.int .i64,.int .i64,.int .i64,.int .i64,.int .i64]),(216,[.int .i64,.int .i64])]
theorem aab:ub Tryz.prog (Ur Dr):=ub.Mg (by kernel_rfl)
def Jo:List Nat:=[73,75,90,92,100,104,105,120,156]
def eqs:TypeId→Option (List Lf):=fun t=>(Dr.find? fun p=>Nat.beq p.1 t).map (·.2)
theorem QW:ub Tryz.prog eqs:=by
 have e:Ur Dr=eqs:=by funext t;exact congrArg (Option.map Prod.snd) (I7 Dr t)
 rw[←e];exact aab
def cx (nt:Nat) (sigs:List kC) (fs:List (Nat×Func)) (ts:List ny):Cx:=⟨r9,ai1,eqs,nt,sigs,fs,0,false,Jo,ts,[],[]⟩
noncomputable def QQ:Env:={ E:=r9,C:=fun _ _=>none,lO:=eqs,P:=Tryz.prog }
theorem ZH:fG.all (fun p=>wI (cx 0 [] [] []) p.1 p.2)=true:=by kernel_rfl
theorem QC (nt:Nat) (sigs:List kC) (fs:List (Nat×Func)) (ts:List ny):ck Tryz.prog QQ (cx nt sigs fs ts):=haveI:=cD;⟨⟨Xs,(fun _ _ _ _ h=>by cases h),QW,(fun _ _ _ _ h=>by cases h),rfl⟩,rfl,rfl,rfl,afH ZH⟩
theorem mixed:Tryz.prog.follows .mixedOrders=true:=by kernel_rfl
noncomputable def Ey:List (Nat×Func):=[(35,Tryz.f35),(75,Tryz.f75),(120,Tryz.f120),(49,Tryz.f49),(93,Tryz.f93),(114,Tryz.f114),(115,Tryz.f115),(168,Tryz.f168),(187,Tryz.f187),(195,Tryz.f195),(119,Tryz.f119),(91,Tryz.f91),(154,Tryz.f154)]
theorem acv:sf Tryz.prog Ey:=aaQ ⟨Tryz.func35,Tryz.func75,Tryz.func120,Tryz.func49,Tryz.func93,Tryz.func114,Tryz.func115,Tryz.func168,Tryz.func187,Tryz.func195,Tryz.func119,Tryz.func91,Tryz.func154,trivial⟩ (by kernel_rfl)
theorem Uc {f:FuncId} {fn:Func} {args res:List Ty} {g:(aQ args).den→Option (aQ res).den} (cs:List Sy.Callee) (ts:List nw) (aR:cs.foldr (fun c p=>aB Tryz.prog c∧p) True) (gA:ts.foldr (fun c p=>ue Tryz.prog c.f c.t c.args c.fn∧p) True) (hf:Tryz.prog.funcs[f]?=some fn) (hk:zF fn args res=true) (h:∀ a,zG (cs++ts.map nw.um) (Ch (cx fn.ntmps (cs.map r7) Ey (wH ts cs.length)) fn.results.toList (nA fn) args res) args res a=g a):aB Tryz.prog ⟨f,args,res,g⟩:=Ql (QC fn.ntmps (cs.map r7) Ey (wH ts cs.length)) (Qo aR gA rfl rfl) acv rfl mixed hf hk h
theorem kk {f:FuncId} {fn:Func} {args res:List Ty} {g:(aQ args).den→Option (aQ res).den} (cs:List Sy.Callee) (aR:cs.foldr (fun c p=>aB Tryz.prog c∧p) True) (hf:Tryz.prog.funcs[f]?=some fn) (hk:zF fn args res=true) (h:∀ a,zG (cs++[]) (Ch (cx fn.ntmps (cs.map r7) Ey []) fn.results.toList (nA fn) args res) args res a=g a):aB Tryz.prog ⟨f,args,res,g⟩:=Uc cs [] aR trivial hf hk h
def QB (nt:Nat) (sigs:List kC):Cx:={ cx nt sigs [] [] with CV:=[27],OH:=[42] }
theorem ZI (nt:Nat) (sigs:List kC):ck Tryz.prog QQ (QB nt sigs):=have h:=QC nt sigs [] [];⟨h.ok,h.E,h.eq,h.sub,h.ty⟩
theorem kkH {f:FuncId} {fn:Func} {args res:List Ty} {g:(aQ args).den→Option (aQ res).den} (cs:List Sy.Callee) (aR:cs.foldr (fun c p=>aB Tryz.prog c∧p) True) (hf:Tryz.prog.funcs[f]?=some fn) (hk:zF fn args res=true) (h:∀ a,zG (cs++[]) (Ch (QB fn.ntmps (cs.map r7)) fn.results.toList (nA fn) args res) args res a=g a):aB Tryz.prog ⟨f,args,res,g⟩:=Ql (ZI fn.ntmps (cs.map r7)) (Qo (ts:=[]) aR trivial rfl rfl) (fun _ _ h=>by cases h) rfl mixed hf hk h
end Go.Proofs.YtfhkmedbfiphbaaGreatDoor
namespace Go.Proofs.YtfhkmedbfiphbaaGreatDoor
open Go Go.aj Go.Sy Go.RowKit Go.ChangeShapes Go.WideShapes
theorem own:ownKnob Tryz.prog.godebug=none:=by kernel_rfl
theorem laidOut:laidOutB Tryz.prog=true:=by kernel_rfl
theorem iD:wQ (fun H=>Rows.uptoBulk (H:=H)) (fun H=>Rows.uptoBulkAll (H:=H)) where
 str _ bs:=by simp[Rows.uptoBulk]
 sl _ a b:=by simp[Rows.uptoBulk]
 agg _ a:=by simp[Rows.uptoBulk]
 nil _:=by simp[Rows.uptoBulkAll]
 cons _ d r:=by simp[Rows.uptoBulkAll]
 one _ d:=by
  cases d with
  | lit l=>cases l<;>simp[Rows.uptoBulk]
  | _=>simp[Rows.uptoBulk]
theorem yI {H:Type} {en:TypeId×Value→H} {W:World} {base:Nat} {sp:Nat→Bool} {held:Bool} (b:Bool):DataW.Trod en Tryz.prog W base sp held 4 (.bool b) (.lit (.bool b)) []:=⟨1,by simp[DataW.trod,Value.cells,Tryz.underlying4]⟩
theorem YN {H:Type} {d:DataW H} {l:List (DataW H)} (h:d∈l):Rows.uptoBulk d≤Rows.uptoBulkAll l:=by
 induction l with
 | nil=>cases h
 | cons x r ih=>
  simp only[Rows.uptoBulkAll]
  rcases List.mem_cons.1 h with e | e
  ·subst e;omega
  have:=ih e;omega
theorem lS {H:Type} {ds:List (DataW H)} (h:Rows.uptoSmall H ds=true) {d:DataW H} (hd:d∈ds):Rows.uptoBulk d≤1048576:=by
 have h1:Rows.uptoBulkAll ds≤1048576:=of_decide_eq_true h
 have:=YN hd
 omega
theorem Rz:Tryz.prog.globalNamed "partbook/pitch.naturals" = some 0:=by kernel_rfl
theorem aaR:(Tryz.prog.globals[0]?).map (·.type)=some 221:=by kernel_rfl
theorem Za:Tryz.prog.cellsOf 221=7:=by kernel_rfl
theorem Y6:Tryz.prog.cellsOf 3=1:=by kernel_rfl
def yP:List Int:=[0,2,4,5,7,9,11]
theorem table {W:World} (h:laidMetH Tryz.prog [("partbook/pitch.naturals",Rows.laid_partbook_pitch_naturals)] W):Lib.TabIs Tryz.prog W "partbook/pitch.naturals" .i64 yP:=
 Lib.tabIs_of_head (rest:=[]) Rz aaR Tryz.underlying221 Tryz.underlying3 Y6 Za h
theorem dA [pn] {W:World} (h:laidMetH Tryz.prog [("partbook/pitch.naturals",Rows.laid_partbook_pitch_naturals)] W):∀ g d,bh.l8 g=some d→Rd (allI W) (.pointer (some ⟨g,0,none⟩)) (.box d):=by
 intro g d hd
 have aS:(sG g).map (fun l=>D.agg (l.map (.int .i64)))=some d:=hd
 by_cases hg:g=0
 ·subst hg
  have e:(sG 0).map (fun l=>D.agg (l.map (.int .i64)))=some (.agg (yP.map (.int .i64))):=rfl
  rw[e] at aS
  injection aS with aS
  subst aS
  have ht:=fun i hi=>(table h).cell Rz i hi
  refine .box 0 _ (fun k=>(W.cell? ⟨0,k,none⟩).getD undef) (fun x hx=>?_) (fun k hk=>?_) (fun k x hx=>?_)
  ·obtain⟨n,_,rfl⟩:=List.mem_map.1 (show x∈yP.map (D.int .i64) from hx);rfl
  ·have gz:k < yP.length:=by simpa [D.cells] using hk
   show W.cell? ⟨0,k,none⟩=_
   rw[ht k gz];rfl
  have cK:(yP.map (D.int .i64))[k]?=some x:=hx
  rw[List.getElem?_map] at cK
  obtain⟨n,hn,rfl⟩:=Option.map_eq_some_iff.1 cK
  have gz:k < yP.length:=(List.getElem?_eq_some_iff.1 hn).1
  rw[ht k gz,List.getD_eq_getElem?_getD,hn]
  exact .int _ _
 have h0:Nat.beq g 0=false:=by
  cases h:Nat.beq g 0 with
  | false=>rfl
  | true=>exact absurd (Nat.eq_of_beq_eq_true h) hg
 have e:sG g=none:=by simp only[sG,h0,cond_false]
 rw[e] at aS;cases aS
end Go.Proofs.YtfhkmedbfiphbaaGreatDoor
namespace Go.Proofs.YtfhkmedbfiphbaaGreatDoor
open Go Go.aj Go.Sy
variable [pn]
set_option maxRecDepth 100000
noncomputable def yn:Int→Option Int:=fun(v0)=>ar (az (j9 v0)) <| some (max v0 (j9 v0))
noncomputable def YX:Sy.Callee:=⟨203,[.int .i64],[.int .i64],yn⟩
theorem T1:aB Tryz.prog YX:=kk [] trivial Tryz.func203 (by kernel_rfl) (fun a=>by kernel_rfl)
end Go.Proofs.YtfhkmedbfiphbaaGreatDoor
namespace Go.Proofs.YtfhkmedbfiphbaaGreatDoor
open Go Go.aj cE
variable [pn]
attribute [local instance] cD
set_option maxRecDepth 10000
instance:cE Fraction:=⟨fun r=> .agg [.int .i64 r.n,.int .i64 r.d],fun d=>match d with | .agg [.int _ x0,.int _ x1]=>⟨x0,x1⟩ | _=>⟨0,0⟩,2,fun _=>rfl,fun _=>rfl,by simp[D.cells,D.one,Dm]⟩
theorem Z5 (r:Fraction):cE.enc r = .agg [.int .i64 r.n,.int .i64 r.d]:=rfl
theorem ZO (k0 k1:IntKind) (x0:Int) (x1:Int):(cE.dec (.agg [.int k0 x0,.int k1 x1]):Fraction)=⟨x0,x1⟩:=rfl
theorem ahY:cE.size Fraction=2:=rfl
theorem aiP:r9 3=some ⟨1,8,[.int .i64 0],.eX .i64⟩:=rfl
theorem aiM:r9 4=some ⟨1,1,[.bool false],.aH⟩:=rfl
theorem aiO:r9 176=some ⟨1,8,[.aG],.aH⟩:=rfl
theorem aiN:r9 216=some ⟨2,16,[.int .i64 0,.int .i64 0],.struct [(0,3),(1,3)]⟩:=rfl
noncomputable def env (l:List (FuncId×aj.Spec)):Env:={ E:=r9,C:=xe l,lO:=eqs,P:=Tryz.prog }
theorem QT {l:List (FuncId×aj.Spec)} (h:yY Tryz.prog l):dI Tryz.prog (env l):=haveI:=cD;⟨Xs,h.ok,QW,(fun _ _ _ _ h=>by cases h),rfl⟩
attribute [local congr] aV.ZC
attribute [local simp] fA jC eJ evalOp bR aj.get pe strip aY aj.after zn typed oU holds eS R.ok R.bad oV gH Cr rU Xk Hd Op.operands Call.operands ei dp gG dW zh xc iA xe rW mv aii aij aik ail xk Z6 ZR ZP ah0 bu D.cells T.iM D.one jy gJ lU kj setAt iu kX tU nF pD bq eg mW kE nd mB IN arith iL xW xM fR oy yt TD.agg env di List.map jj ahg ahh ahi ahj ahk ahl ahm ahn Z8 ah1 ZS aim yN ain aio aip tw Nj gone unbox pz pg qJ rE Z7 ZQ ahZ ahO Qv List.contains_cons List.contains_nil Z3 Z5 ZO ahY aiP aiM aiO aiN
noncomputable def Nk:aj.Spec:=yN fun(a0:Int)=>(yn a0).map fun r=>enc r
theorem afI:ud Tryz.prog 203 Nk:=ud.Vp T1.enters fun a r h=>by
 obtain⟨y,h1,rfl⟩:=Option.map_eq_some_iff.1 h
 exact T1.kJ a y h1
def jd (a b:Int):Int:=if h:b=0 then a else jd b (a.tmod b)
termination_by b.natAbs
decreasing_by
 rw[Int.natAbs_tmod]
 exact Nat.mod_lt _ (by omega)
theorem GB (a:Int):jd a 0=a:=by rw[jd];simp
theorem MQ {a b:Int} (h:b≠0):jd a b=jd b (a.tmod b):=by rw[jd];simp[h]
theorem WT:∀ (k:Nat) (a b:Int) {LL:List AO} {id:Nat},b.natAbs≤k→LL[id]?=some (.var 176 [.aL 202 [.ptr id 0]])→sg LL →
  qC Tryz.prog 202 [.d (.int .i64 a),.d (.int .i64 b),.ptr id 0] LL fun u l'=>u = .d (.int .i64 (jd a b))∧∃ vals ft,l'=LL++[.frame LL.length vals ft]
 | k,a,b,LL,id,hk,an,abG=>by
  have hV:dI Tryz.prog (env []):=QT trivial
  refine qC.of hV (Enters.of Tryz.func202 (by decide)) Tryz.func202 rfl (by rw[Tryz.ntmps202];simp) fun R hR w0 I0 vals ft Q hQ=>?_
  rw[Tryz.ntmps202]
  have qY:=aaT an [.frame LL.length vals ft]
  have Ke:=abG.frame vals ft
  have lI:(LL++[AO.frame LL.length vals ft])[LL.length]?=some (.frame LL.length vals ft):=by simp
  have JU:∀ (n:Int) (t:Tm),aj.get t 5 = .d (.int .i64 n)→n=jd a b→∀ st,aj.Sub st ⟨t,LL++[AO.frame LL.length vals ft]⟩→Q .ret st:=by
   intro n t ht hn st c7
   refine hQ _ _ (.inl rfl) ⟨_,c7,by simp[jF],lI,?_,vals,ft,rfl⟩
   simp[jF,Ny,ht,hn]
  have jV:id < LL.length:=(List.getElem?_eq_some_iff.1 an).1
  obtain⟨L,hL⟩:∃ L,L=LL++[AO.frame LL.length vals ft]:=⟨_,rfl⟩
  rw[←hL] at qY Ke JU ⊢
  simp only[nr]
  refine aV.rS hV none [0,1,2] fun K k1=>?_
  simp
  refine nc (s':=⟨[(0,.d (.int .i64 a)),(1,.d (.int .i64 b)),(2,.ptr id 0)],L⟩) (by first | rfl | simp) (k1 _ ?_)
  refine aV.WU (fun s'=>b≠0∧Sub s' ⟨[(0,.d (.int .i64 a)),(1,.d (.int .i64 b)),(2,.ptr id 0)],L⟩) (fun _ k2=>?_) ?_
  ·refine aV.rS hV none [0,1,2,7] fun K k3=>?_
   simp
   refine nc (s':=⟨[(0,.d (.int .i64 a)),(1,.d (.int .i64 b)),(2,.ptr id 0),(7,.d (.bool (decide (b=0))))],L⟩) (by first | rfl | simp) (k3 _ ?_)
   refine aV.cond (b:=decide (b=0)) rfl (fun h=>?_) fun h=>?_
   ·have hb:b=0:=by simpa using h
    refine aV.rS hV none [5] fun K k4=>?_
    simp
    refine nc (s':=⟨[(5,.d (.int .i64 a))],L⟩) (by first | rfl | simp) (k4 _ ?_)
    refine aV.ret ?_
    exact JU a _ rfl (by rw[hb,GB]) _ (Sub.refl _)
   refine aV.skip (k2 _ ⟨by simpa using h,Sub.wz (by simp[qS])⟩)
  rintro s' ⟨hb,hs⟩
  refine aV.sub hs ?_
  refine aV.We hV mixed none 5 [] [9,10,13] [5] (by decide) (by decide) fun K k3 K1 h1=>?_
  simp[qY,hb]
  refine nc (s':=⟨[(9,.aL 202 [.ptr id 0]),(10,.d (.int .i64 b)),(13,.d (.int .i64 (a.tmod b)))],L⟩) (by first | rfl | simp) (h1 _ ?_)
  refine mL.call hV 202 [.d (.int .i64 b),.d (.int .i64 (a.tmod b)),.ptr id 0] rfl rfl trivial (by decide) (by simp[eO]) fun K2 h2=>?_
  have aN:(a.tmod b).natAbs < b.natAbs:=by rw[Int.natAbs_tmod];exact Nat.mod_lt _ (by omega)
  match k,hk with
  | 0,hk=>omega
  | k+1,hk=>
   refine(WT k b (a.tmod b) (by omega) qY Ke).mono ?_
   rintro _ _ ⟨rfl,NL,Jp,rfl⟩
   refine h2 _ _ (mL.fin hV none ?_)
   simp
   refine nc (s':=⟨[(5,.d (.int .i64 (jd b (a.tmod b))))],L++[.frame L.length NL Jp]⟩) (by first | rfl | simp) (k3 _ ?_)
   refine aV.ret ?_
   exact JU _ [(5,.d (.int .i64 (jd b (a.tmod b))))] rfl (MQ hb).symm _ (Sub.drop Ke (by simp[T.er]) (by simp[qS]))
noncomputable def Bf (f:Fraction) (g:Int):Option Fraction:=bT (g≠0) (bT (kW (f.n.tdiv g)) (bT (kW (f.d.tdiv g)) (some ⟨f.n.tdiv g,f.d.tdiv g⟩)))
noncomputable def vV (f:Fraction):Option Fraction:=
 aa (yn f.n) fun a=>aa (yn f.d) fun b=>
 ab (decide (f.d < 0)) (bT (kW (0 - jd a b)) (Bf f (0 - jd a b))) (Bf f (jd a b))
noncomputable def Xe:aj.Spec:=yN fun(f:Fraction)=>(vV f).map fun r=>enc r
theorem Vq:ud Tryz.prog 188 Xe:=by
 have hV:dI Tryz.prog (env [(203,Nk)]):=QT ⟨afI,trivial⟩
 refine ud.Vp (Enters.of Tryz.func188 (by decide)) ?_
 intro f rr hr
 obtain⟨r,hg,rfl⟩:=Option.map_eq_some_iff.1 hr
 clear hr
 refine gg.ofQ hV Tryz.func188 rfl (by rw[Tryz.ntmps188];simp) fun R hR w0 I0 Q hQ=>?_
 rw[Tryz.ntmps188]
 unfold vV at hg
 obtain⟨a,ha,hg⟩:=OF hg
 obtain⟨b,hb,hg⟩:=OF hg
 refine aV.rS hV none [1,2] fun K k1=>?_
 simp
 refine nc (s':=⟨[(1,.ptr 0 0),(2,.ptr 1 0)],[.var 216 (bu (.d (enc f))),.var 216 [.d (.int .i64 0),.d (.int .i64 0)]]⟩) (by first | rfl | simp) (k1 _ ?_)
 refine aV.rS hV none [1,2,3] fun K k1=>?_
 simp
 refine nc (s':=⟨[(1,.ptr 0 0),(2,.ptr 1 0),(3,.ptr 2 0)],[.var 216 (bu (.d (enc f))),.var 216 [.d (.int .i64 0),.d (.int .i64 0)],.var 176 [.d .aG]]⟩) (by first | rfl | simp) (k1 _ ?_)
 refine aV.rS hV none [1,2,3] fun K k1=>?_
 simp
 refine nc (s':=⟨[(1,.ptr 0 0),(2,.ptr 1 0),(3,.ptr 2 0)],[.var 216 (bu (.d (enc f))),.var 216 [.d (.int .i64 0),.d (.int .i64 0)],.var 176 [.aL 202 [.ptr 2 0]]]⟩) (by first | rfl | simp) (k1 _ ?_)
 refine aV.We hV mixed none 7 [] [1,2,6,9,12] [1,2,4] (by decide) (by decide) fun K k3 K1 h1=>?_
 simp[Nk,ha,hb]
 refine nc (s':=⟨[(1,.ptr 0 0),(2,.ptr 1 0),(6,.aL 202 [.ptr 2 0]),(9,.d (.int .i64 a)),(12,.d (.int .i64 b))],[.var 216 (bu (.d (enc f))),.var 216 [.d (.int .i64 0),.d (.int .i64 0)],.var 176 [.aL 202 [.ptr 2 0]]]⟩) (by first | rfl | simp) (h1 _ ?_)
 refine mL.call hV 202 [.d (.int .i64 a),.d (.int .i64 b),.ptr 2 0] rfl rfl trivial (by decide) (by simp[eO]) fun K2 h2=>?_
 refine(WT b.natAbs a b (Nat.le_refl _) rfl (by simp[sg,AO.er,T.er,T.tg])).mono ?_
 rintro _ _ ⟨rfl,NL,Jp,rfl⟩
 refine h2 _ _ (mL.fin hV none ?_)
 simp
 refine nc (s':=⟨[(1,.ptr 0 0),(2,.ptr 1 0),(4,.d (.int .i64 (jd a b)))],[.var 216 (bu (.d (enc f))),.var 216 [.d (.int .i64 0),.d (.int .i64 0)],.var 176 [.aL 202 [.ptr 2 0]]]++[.frame 3 NL Jp]⟩) (by first | rfl | simp) (k3 _ ?_)
 refine aV.sub (s':=⟨[(1,.ptr 0 0),(2,.ptr 1 0),(4,.d (.int .i64 (jd a b)))],[.var 216 (bu (.d (enc f))),.var 216 [.d (.int .i64 0),.d (.int .i64 0)]]⟩) (Sub.dU [0,1] (by decide) (by simp[Jk]) (by simp[eI,AO.dU,T.dU,T.eH]) (by simp[sD,T.dU,T.eH,idx])) ?_
 refine aV.WU (fun s'=>∃ g,Bf f g=some r∧Sub s' ⟨[(1,.ptr 0 0),(2,.ptr 1 0),(4,.d (.int .i64 g))],[.var 216 (bu (.d (enc f))),.var 216 [.d (.int .i64 0),.d (.int .i64 0)]]⟩) (fun _ k2=>?_) ?_
 ·refine aV.rS hV none [1,2,4,16] fun K k4=>?_
  simp
  refine nc (s':=⟨[(1,.ptr 0 0),(2,.ptr 1 0),(4,.d (.int .i64 (jd a b))),(16,.d (.bool (decide (f.d < 0))))],[.var 216 (bu (.d (enc f))),.var 216 [.d (.int .i64 0),.d (.int .i64 0)]]⟩) (by first | rfl | simp) (k4 _ ?_)
  refine aV.cond (b:=decide (f.d < 0)) rfl (fun h=>?_) fun h=>?_
  ·replace hg:=acn h hg
   obtain⟨g1,hg⟩:=DK hg
   unfold kW at g1
   refine aV.Wq hV none [1,2,4] fun K k5=>?_
   simp
   refine And.intro (by omega) ?_
   refine nc (s':=⟨[(1,.ptr 0 0),(2,.ptr 1 0),(4,.d (.int .i64 (0 - jd a b)))],[.var 216 (bu (.d (enc f))),.var 216 [.d (.int .i64 0),.d (.int .i64 0)]]⟩) (by first | rfl | simp) (k5 _ ?_)
   exact k2 _ ⟨_,hg,Sub.refl _⟩
  replace hg:=aci h hg
  exact aV.skip (k2 _ ⟨_,hg,Sub.wz (by simp[qS])⟩)
 rintro s' ⟨g,hg,hs⟩
 refine aV.sub hs ?_
 unfold Bf at hg
 obtain⟨g1,hg⟩:=DK hg
 obtain⟨g2,hg⟩:=DK hg
 obtain⟨g3,hg⟩:=DK hg
 unfold kW at g2 g3
 have hg:=Option.some.inj hg
 subst hg
 refine aV.rDF hV mixed none 9 [] [2] (by decide) fun K k5=>?_
 simp
 repeat refine And.intro (by first | omega | exact g1) ?_
 refine nc (s':=⟨[(2,.ptr 1 0)],[.var 216 (bu (.d (enc f))),.var 216 (bu (.d (enc (⟨f.n.tdiv g,f.d.tdiv g⟩:Fraction))))]⟩) (by first | rfl | simp) (k5 _ ?_)
 refine aV.ret ?_
 refine hQ _ _ (.inl rfl) ?_
 simp[GY,jF,iu]
open Go.Sy
noncomputable def MD:Fraction→Option Fraction:=vV
noncomputable def C9:Sy.Callee:=⟨188,[.st 13],[.st 13],MD⟩
theorem ahw (a r:Fraction) (h:vV a=some r):gg Tryz.prog 188 [enc a] (enc r):=Vq.kJ [enc a] (enc r) (enc (dec (enc a):Fraction)=enc a∧((vV (dec (enc a))).map fun r=>enc r).isSome=true) (by
 simp only[Xe,yN,zp,h,Option.map_some,tw]
 rfl) ⟨by rw[zp],by simp[zp,h]⟩
theorem adP:aB Tryz.prog C9:=⟨Vq.enters,fun a r h=>ahw a r h,fun t h=>dF (List.all_eq_true.1 (rfl:C9.args.all fP=true) t h),fun t h=>dF (List.all_eq_true.1 (rfl:C9.res.all fP=true) t h)⟩
end Go.Proofs.YtfhkmedbfiphbaaGreatDoor
namespace Go.Proofs.YtfhkmedbfiphbaaGreatDoor
open Go Go.aj Go.Sy
variable [pn]
set_option maxRecDepth 100000
noncomputable def BB:Score→Option Bool:=fun(v0)=>aa (ab (leI (v0.bars.length:Int) 60) (ab (leI (v0.parts.length:Int) 61) (some (leI (v0.notes.length:Int) 60)) (some false)) (some false)) fun(v1:Bool)=>some v1
noncomputable def H3:Sy.Callee:=⟨23,[.st 6],[.bool],BB⟩
theorem TP:aB Tryz.prog H3:=kk [] trivial Tryz.func23 (by kernel_rfl) (fun a=>by kernel_rfl)
noncomputable def Ge:View→Option Bool:=fun(v0)=>aa (aU (fun v1:(Int×Int)=>aa (ab (aA v1.2 (v0.bg.length:Int)) (some (aA v1.2 61)) (some false)) fun(v2:Bool)=>ab v2 (aa (av v0.bg v1.2) fun v3=>ar (az (v1.1+(v3.notes.length:Int))) <| ar (az (v1.2+1)) <| some (.inl ((v1.1+(v3.notes.length:Int)),(v1.2+1)))) (some (.inr v1.1))) (0,0)) fun(v1:Int)=>aa (ab (leI (v0.bg.length:Int) 60) (some (leI v1 80)) (some false)) fun(v2:Bool)=>some v2
noncomputable def PD:Sy.Callee:=⟨32,[.st 9],[.bool],Ge⟩
theorem adD:aB Tryz.prog PD:=kk [] trivial Tryz.func32 (by kernel_rfl) (fun a=>by kernel_rfl)
noncomputable def Bi:(Score×View)→Option Bool:=fun(v0,v1)=>aa (aa (BB v0) fun v2=>ab v2 (aa (Ge v1) fun v3=>some v3) (some false)) fun(v2:Bool)=>some v2
noncomputable def HJ:Sy.Callee:=⟨10,[.st 6,.st 9],[.bool],Bi⟩
theorem Tt:aB Tryz.prog HJ:=kk [H3,PD] ⟨TP,adD,trivial⟩ Tryz.func10 (by kernel_rfl) (fun a=>by kernel_rfl)
noncomputable def k9:(Int×(Int×Int))→Option Bool:=fun(v0,v1,v2)=>aa (ab (leI v1 v0) (some (leI v0 v2)) (some false)) fun(v3:Bool)=>some v3
noncomputable def xb:Sy.Callee:=⟨96,[.int .i64,.int .i64,.int .i64],[.bool],k9⟩
theorem AS:aB Tryz.prog xb:=kk [] trivial Tryz.func96 (by kernel_rfl) (fun a=>by kernel_rfl)
noncomputable def tJ:Int→Option Bool:=fun(v0)=>aa (k9 (v0,(1,1000000))) fun v1=>some v1
noncomputable def zf:Sy.Callee:=⟨51,[.int .i64],[.bool],tJ⟩
theorem ES:aB Tryz.prog zf:=kk [xb] ⟨AS,trivial⟩ Tryz.func51 (by kernel_rfl) (fun a=>by kernel_rfl)
noncomputable def tH:Rat→Option Bool:=fun(v0)=>aa (ab (aA v0.d 1) (some true) (ab (aA 1000000 v0.d) (some true) (ab (aA v0.n (-1000000000)) (some true) (some (aA 1000000000 v0.n))))) fun(v1:Bool)=>ab v1 (some false) (aa (MD (⟨v0.n,v0.d⟩:Fraction)) fun v2=>some (Ox v2 (⟨v0.n,v0.d⟩:Fraction)))
noncomputable def ze:Sy.Callee:=⟨146,[.st 0],[.bool],tH⟩
theorem ER:aB Tryz.prog ze:=kk [C9] ⟨adP,trivial⟩ Tryz.func146 (by kernel_rfl) (fun a=>by kernel_rfl)
noncomputable def Bl:Rat→Option Bool:=fun(v0)=>aa (aa (tH v0) fun v1=>ab v1 (ab (leI 0 v0.n) (ar (!(ay v0.d 0)) <| some (ay (Int.tmod 1680 v0.d) 0)) (some false)) (some false)) fun(v1:Bool)=>some v1
noncomputable def O3:Sy.Callee:=⟨97,[.st 0],[.bool],Bl⟩
theorem ac3:aB Tryz.prog O3:=kk [ze] ⟨ER,trivial⟩ Tryz.func97 (by kernel_rfl) (fun a=>by kernel_rfl)
noncomputable def Gj:(Rat×Rat)→Option (Int×Int):=fun(v0,v1)=>aa (aa (tH v0) fun v2=>ab (!v2) (some true) (aa (tH v1) fun v3=>some (!v3))) fun(v2:Bool)=>ab v2 (some (0,1)) (ar (az (v0.n*v1.d)) <| ar (az (v1.n*v0.d)) <| ab (aA (v0.n*v1.d) (v1.n*v0.d)) (some ((-1),0)) (ab (aA (v1.n*v0.d) (v0.n*v1.d)) (some (1,0)) (some (0,0))))
noncomputable def PO:Sy.Callee:=⟨147,[.st 0,.st 0],[.int .i64,.int .i64],Gj⟩
theorem adO:aB Tryz.prog PO:=kk [ze] ⟨ER,trivial⟩ Tryz.func147 (by kernel_rfl) (fun a=>by kernel_rfl)
noncomputable def Bm:(Rat×Rat)→Option Bool:=fun(v0,v1)=>aa (Gj (v0,v1)) fun v2=>some (aA v2.1 0)
noncomputable def O4:Sy.Callee:=⟨98,[.st 0,.st 0],[.bool],Bm⟩
theorem ac4:aB Tryz.prog O4:=kk [PO] ⟨adO,trivial⟩ Tryz.func98 (by kernel_rfl) (fun a=>by kernel_rfl)
noncomputable def Bk:(List aD)→Option Bool:=fun(v0)=>cw (aU (fun v1:(Int×(List (Int×Bool)))=>ab (aA v1.1 (v0.length:Int)) (aa (av v0 v1.1) fun v2=>aa (ab (aA v2.id 1) (some true) (ab (aA 1000000 v2.id) (some true) (ab (bB v1.2 v2.id false) (some true) (ab (aA v2.key (-7)) (some true) (some (aA 7 v2.key)))))) fun(v3:Bool)=>ab v3 (some (.inr (.inr false))) (aa (aa (Bl v2.length) fun v4=>ab (!v4) (some true) (ab (ay v2.length.n 0) (some true) (aa (Bm ((⟨24,1⟩:Rat),v2.length)) fun v5=>some v5))) fun(v4:Bool)=>ab v4 (some (.inr (.inr false))) (ar (az (v1.1+1)) <| some (.inl ((v1.1+1),(bz v1.2 v2.id true)))))) (some (.inr (.inl ())))) (0,([]:List (Int×Bool)))) fun(v1:Unit)=>aa (ab (leI 1 (v0.length:Int)) (some (leI (v0.length:Int) 4000)) (some false)) fun(v2:Bool)=>some v2
noncomputable def HM:Sy.Callee:=⟨52,[.list (.st 1)],[.bool],Bk⟩
theorem Tw:aB Tryz.prog HM:=kk [O3,O4] ⟨ac3,ac4,trivial⟩ Tryz.func52 (by kernel_rfl) (fun a=>by kernel_rfl)
noncomputable def we:(Int×(Int×Int))→Option Bool:=fun(v0,v1,v2)=>aa (ab (leI v1 v0) (some (leI v0 v2)) (some false)) fun(v3:Bool)=>some v3
noncomputable def HT:Sy.Callee:=⟨163,[.int .i64,.int .i64,.int .i64],[.bool],we⟩
theorem TF:aB Tryz.prog HT:=kk [] trivial Tryz.func163 (by kernel_rfl) (fun a=>by kernel_rfl)
noncomputable def wc:Interval→Option Bool:=fun(v0)=>aa (aa (we (v0.steps,((-70),70))) fun v1=>ab v1 (aa (we (v0.bG,((-120),120))) fun v2=>some v2) (some false)) fun(v1:Bool)=>some v1
noncomputable def HR:Sy.Callee:=⟨164,[.st 2],[.bool],wc⟩
theorem TC:aB Tryz.prog HR:=kk [HT] ⟨TF,trivial⟩ Tryz.func164 (by kernel_rfl) (fun a=>by kernel_rfl)
noncomputable def rP:Interval→Option (Interval×Int):=fun(v0)=>aa (wc v0) fun v1=>ab (!v1) (some ((⟨0,0⟩:Interval),1)) (ar (az (j9 v0.steps)) <| ar (az (j9 v0.bG)) <| some ((⟨(j9 v0.steps),(j9 v0.bG)⟩:Interval),0))
noncomputable def za:Sy.Callee:=⟨117,[.st 2],[.st 2,.int .i64],rP⟩
theorem EO:aB Tryz.prog za:=kk [HR] ⟨TC,trivial⟩ Tryz.func117 (by kernel_rfl) (fun a=>by kernel_rfl)
noncomputable def Mo:Interval→Option Bool:=fun(v0)=>aa (rP v0) fun v1=>some (ay v1.2 0)
noncomputable def OR:Sy.Callee:=⟨204,[.st 2],[.bool],Mo⟩
theorem acL:aB Tryz.prog OR:=kk [za] ⟨EO,trivial⟩ Tryz.func204 (by kernel_rfl) (fun a=>by kernel_rfl)
noncomputable def yb:Interval→Option (Int×Int):=fun(v0)=>aa (Mo v0) fun v1=>ab (!v1) (some (0,1)) (ar (az (7*v0.bG)) <| ar (az (12*v0.steps)) <| ar (az ((7*v0.bG) - (12*v0.steps))) <| some (((7*v0.bG) - (12*v0.steps)),0))
noncomputable def C1:Sy.Callee:=⟨189,[.st 2],[.int .i64,.int .i64],yb⟩
theorem K9:aB Tryz.prog C1:=kk [OR] ⟨acL,trivial⟩ Tryz.func189 (by kernel_rfl) (fun a=>by kernel_rfl)
noncomputable def wh:Interval→Option Bool:=fun(v0)=>aa (yb v0) fun v1=>aa (ab (ay v1.2 0) (aa (k9 (v0.steps,((-21),21))) fun v2=>ab v2 (aa (k9 (v0.bG,((-36),36))) fun v3=>ab v3 (aa (k9 (v1.1,((-12),12))) fun v4=>some v4) (some false)) (some false)) (some false)) fun(v2:Bool)=>some v2
noncomputable def PY:Sy.Callee:=⟨148,[.st 2],[.bool],wh⟩
theorem adY:aB Tryz.prog PY:=kk [C1,xb] ⟨K9,AS,trivial⟩ Tryz.func148 (by kernel_rfl) (fun a=>by kernel_rfl)
noncomputable def ky:aE→Option Bool:=fun(v0)=>aa (aa (we (v0.step,(0,6))) fun v1=>ab v1 (aa (we (v0.alter,((-4),4))) fun v2=>ab v2 (aa (we (v0.au,((-8),20))) fun v3=>some v3) (some false)) (some false)) fun(v1:Bool)=>some v1
noncomputable def px:Sy.Callee:=⟨116,[.st 3],[.bool],ky⟩
theorem ry:aB Tryz.prog px:=kk [HT] ⟨TF,trivial⟩ Tryz.func116 (by kernel_rfl) (fun a=>by kernel_rfl)
noncomputable def tF:aE→Option Int:=fun(v0)=>ar (az (12*v0.au)) <| aa (av (0::(2::(4::(5::(7::(9::(11::([]:List Int)))))))) v0.step) fun v1=>ar (az ((12*v0.au)+v1)) <| ar (az (((12*v0.au)+v1)+v0.alter)) <| some (((12*v0.au)+v1)+v0.alter)
noncomputable def HS:Sy.Callee:=⟨167,[.st 3],[.int .i64],tF⟩
theorem TE:aB Tryz.prog HS:=kk [] trivial Tryz.func167 (by kernel_rfl) (fun a=>by kernel_rfl)
noncomputable def tE:aE→Option (Int×Int):=fun(v0)=>aa (ky v0) fun v1=>ab (!v1) (some (0,1)) (aa (tF v0) fun v2=>some (v2,0))
noncomputable def zb:Sy.Callee:=⟨123,[.st 3],[.int .i64,.int .i64],tE⟩
theorem EP:aB Tryz.prog zb:=kk [px,HS] ⟨ry,TE,trivial⟩ Tryz.func123 (by kernel_rfl) (fun a=>by kernel_rfl)
noncomputable def qj:aE→Option Int:=fun(v0)=>aa (tE v0) fun v1=>some v1.1
noncomputable def Ig:Sy.Callee:=⟨106,[.st 3],[.int .i64],qj⟩
theorem T3:aB Tryz.prog Ig:=kk [zb] ⟨EP,trivial⟩ Tryz.func106 (by kernel_rfl) (fun a=>by kernel_rfl)
noncomputable def Gn:Part→Option Bool:=fun(v0)=>aa (aa (tJ v0.id) fun v1=>ab v1 (aa (k9 (v0.mA,(0,99))) fun v2=>ab v2 (aa (k9 (v0.of,(0,1000000))) fun v3=>ab v3 (aa (k9 (v0.au,((-2),2))) fun v4=>ab v4 (aa (k9 (v0.ma,(1,40))) fun v5=>some v5) (some false)) (some false)) (some false)) (some false)) fun(v1:Bool)=>aa (ab (!v1) (some true) (ab (ay v0.of v0.id) (some true) (ab (ay v0.of 0) (ab (!(ay v0.au 0)) (some true) (aa (wh v0.shift) fun v2=>some (!v2))) (aa (wh v0.shift) fun v2=>some (!v2))))) fun(v2:Bool)=>ab v2 (some false) (aa (aa (ky v0.low) fun v3=>ab v3 (aa (ky v0.high) fun v4=>ab v4 (aa (qj v0.low) fun v5=>aa (qj v0.high) fun v6=>some (leI v5 v6)) (some false)) (some false)) fun(v3:Bool)=>some v3)
noncomputable def PV:Sy.Callee:=⟨99,[.st 4],[.bool],Gn⟩
theorem adV:aB Tryz.prog PV:=kk [zf,xb,PY,px,Ig] ⟨ES,AS,adY,ry,T3,trivial⟩ Tryz.func99 (by kernel_rfl) (fun a=>by kernel_rfl)
noncomputable def Gm:(Part×(List (Int×Part)))→Option Bool:=fun(v0,v1)=>aa (ab (!(ay v0.of 0)) (ab (!(fh v1 v0.of)) (some true) (some (!(ay (bB v1 v0.of (⟨0,0,0,0,0,(⟨0,0⟩:Interval),(⟨0,0,0⟩:aE),(⟨0,0,0⟩:aE)⟩:Part)).of 0)))) (some false)) fun(v2:Bool)=>some v2
noncomputable def PT:Sy.Callee:=⟨100,[.st 4,.box (.map (.int .i64) (.st 4))],[.bool],Gm⟩
theorem adT:aB Tryz.prog PT:=kk [] trivial Tryz.func100 (by kernel_rfl) (fun a=>by kernel_rfl)
noncomputable def Gv:((List Part)×(List (Int×Part)))→Option Int:=fun(v0,v1)=>cw (aU (fun v2:Int=>ab (aA v2 (v0.length:Int)) (aa (av v0 v2) fun v3=>aa (Gm (v3,v1)) fun v4=>ab v4 (some (.inr (.inr v2))) (ar (az (v2+1)) <| some (.inl (v2+1)))) (some (.inr (.inl ())))) 0) fun(v2:Unit)=>some (-1)
noncomputable def P9:Sy.Callee:=⟨91,[.list (.st 4),.aL 100 (.box (.map (.int .i64) (.st 4)))],[.int .i64],Gv⟩
theorem ad9:aB Tryz.prog P9:=kk [PT] ⟨adT,trivial⟩ Tryz.func91 (by kernel_rfl) (fun a=>by kernel_rfl)
noncomputable def Gu:((List Part)×(List (Int×Part)))→Option Bool:=fun(v0,v1)=>aa (Gv (v0,v1)) fun v2=>some (leI 0 v2)
noncomputable def P5:Sy.Callee:=⟨101,[.list (.st 4),.aL 100 (.box (.map (.int .i64) (.st 4)))],[.bool],Gu⟩
theorem ad5:aB Tryz.prog P5:=kk [P9] ⟨ad9,trivial⟩ Tryz.func101 (by kernel_rfl) (fun a=>by kernel_rfl)
noncomputable def Gl:(List Part)→Option Bool:=fun(v0)=>aa (k9 ((v0.length:Int),(1,60))) fun v1=>ab (!v1) (some false) (cw (aU (fun v2:(Int×(List (Int×Part)))=>ab (aA v2.1 (v0.length:Int)) (aa (av v0 v2.1) fun v3=>aa (Gn v3) fun v4=>ab (!v4) (some (.inr (.inr false))) (ar (az (v2.1+1)) <| some (.inl ((v2.1+1),(bz v2.2 v3.id v3))))) (some (.inr (.inl v2.2)))) (0,([]:List (Int×Part)))) fun(v2:(List (Int×Part)))=>aa (ab (ay (v2.length:Int) (v0.length:Int)) (aa (Gu (v0,v2)) fun v3=>some (!v3)) (some false)) fun(v3:Bool)=>some v3)
noncomputable def PS:Sy.Callee:=⟨53,[.list (.st 4)],[.bool],Gl⟩
theorem adS:aB Tryz.prog PS:=kk [xb,PV,P5] ⟨AS,adV,ad5,trivial⟩ Tryz.func53 (by kernel_rfl) (fun a=>by kernel_rfl)
noncomputable def Bo:(List aD)→Option (List (Int×Int)):=fun(v0)=>aa (aU (fun v1:(Int×(List (Int×Int)))=>ab (aA v1.1 (v0.length:Int)) (aa (av v0 v1.1) fun v2=>ar (az (v1.1+1)) <| some (.inl ((v1.1+1),(bz v1.2 v2.id v1.1)))) (some (.inr v1.2))) (0,([]:List (Int×Int)))) fun(v1:(List (Int×Int)))=>some v1
noncomputable def HO:Sy.Callee:=⟨102,[.list (.st 1)],[.map (.int .i64) (.int .i64)],Bo⟩
theorem Tz:aB Tryz.prog HO:=kk [] trivial Tryz.func102 (by kernel_rfl) (fun a=>by kernel_rfl)
noncomputable def tD:Rat→Option (Int×Bool):=fun(v0)=>aa (aa (tH v0) fun v1=>ab (!v1) (some true) (ab (aA v0.n 0) (some true) (ar (!(ay v0.d 0)) <| some (!(ay (Int.tmod 1680 v0.d) 0))))) fun(v1:Bool)=>ab v1 (some (0,false)) (ar (!(ay v0.d 0)) <| ar (az (Int.tdiv 1680 v0.d)) <| ar (az (v0.n*(Int.tdiv 1680 v0.d))) <| some ((v0.n*(Int.tdiv 1680 v0.d)),true))
noncomputable def HP:Sy.Callee:=⟨149,[.st 0],[.int .i64,.bool],tD⟩
theorem TA:aB Tryz.prog HP:=kk [ze] ⟨ER,trivial⟩ Tryz.func149 (by kernel_rfl) (fun a=>by kernel_rfl)
noncomputable def wb:(Int×(Int×Int))→Option Bool:=fun(v0,v1,v2)=>aa (ab (leI v1 v0) (some (leI v0 v2)) (some false)) fun(v3:Bool)=>some v3
noncomputable def C3:Sy.Callee:=⟨151,[.int .i64,.int .i64,.int .i64],[.bool],wb⟩
theorem Lb:aB Tryz.prog C3:=kk [] trivial Tryz.func151 (by kernel_rfl) (fun a=>by kernel_rfl)
noncomputable def Bp:Int→Option Bool:=fun(v0)=>aa (wb (v0,(1,1000000))) fun v1=>some v1
noncomputable def O6:Sy.Callee:=⟨150,[.int .i64],[.bool],Bp⟩
theorem ac6:aB Tryz.prog O6:=kk [C3] ⟨Lb,trivial⟩ Tryz.func150 (by kernel_rfl) (fun a=>by kernel_rfl)
noncomputable def FV:aE→Option Bool:=fun(v0)=>aa (aa (ky v0) fun v1=>ab v1 (aa (wb (v0.alter,((-2),2))) fun v2=>ab v2 (aa (wb (v0.au,(0,9))) fun v3=>some v3) (some false)) (some false)) fun(v1:Bool)=>some v1
noncomputable def O7:Sy.Callee:=⟨152,[.st 3],[.bool],FV⟩
theorem ac7:aB Tryz.prog O7:=kk [px,C3] ⟨ry,Lb,trivial⟩ Tryz.func152 (by kernel_rfl) (fun a=>by kernel_rfl)
noncomputable def FU:(aD×ag)→Option Bool:=fun(v0,v1)=>aa (tD v1.start) fun v2=>aa (tD v1.length) fun v3=>aa (tD v0.length) fun v4=>aa (ab v2.2 (ab v3.2 (ab (aA 0 v3.1) (ar (az (v2.1+v3.1)) <| ab (leI (v2.1+v3.1) v4.1) (aa (Bp v1.id) fun v5=>ab v5 (aa (Bp v1.part) fun v6=>ab v6 (aa (wb (v1.bm,(0,9))) fun v7=>ab v7 (aa (wb (v1.bH,(0,20))) fun v8=>ab v8 (aa (FV v1.aM) fun v9=>some v9) (some false)) (some false)) (some false)) (some false)) (some false)) (some false)) (some false)) (some false)) fun(v5:Bool)=>some v5
noncomputable def O5:Sy.Callee:=⟨103,[.st 1,.st 5],[.bool],FU⟩
theorem ac5:aB Tryz.prog O5:=kk [HP,O6,C3,O7] ⟨TA,ac6,Lb,ac7,trivial⟩ Tryz.func103 (by kernel_rfl) (fun a=>by kernel_rfl)
noncomputable def wa:((List aD)×(List ag))→Option Bool:=fun(v0,v1)=>aa (aa (Bk v0) fun v2=>ab (!v2) (some true) (some (aA 20000 (v1.length:Int)))) fun(v2:Bool)=>ab v2 (some false) (aa (Bo v0) fun v3=>cw (aU (fun v4:(Int×(List (Int×Bool)))=>ab (aA v4.1 (v1.length:Int)) (aa (av v1 v4.1) fun v5=>aa (ab (!(fh v3 v5.aZ)) (some true) (ab (bB v4.2 v5.id false) (some true) (aa (av v0 (bB v3 v5.aZ 0)) fun v6=>aa (FU (v6,v5)) fun v7=>some (!v7)))) fun(v6:Bool)=>ab v6 (some (.inr (.inr false))) (ar (az (v4.1+1)) <| some (.inl ((v4.1+1),(bz v4.2 v5.id true))))) (some (.inr (.inl ())))) (0,([]:List (Int×Bool)))) fun(v4:Unit)=>some true)
noncomputable def y9:Sy.Callee:=⟨54,[.list (.st 1),.list (.st 5)],[.bool],wa⟩
theorem EN:aB Tryz.prog y9:=kk [HM,HO,O5] ⟨Tw,Tz,ac5,trivial⟩ Tryz.func54 (by kernel_rfl) (fun a=>by kernel_rfl)
noncomputable def Gq:(ag×(List (Int×Part)))→Option Bool:=fun(v0,v1)=>some (!(fh v1 v0.part))
noncomputable def PZ:Sy.Callee:=⟨104,[.st 5,.box (.map (.int .i64) (.st 4))],[.bool],Gq⟩
theorem adZ:aB Tryz.prog PZ:=kk [] trivial Tryz.func104 (by kernel_rfl) (fun a=>by kernel_rfl)
noncomputable def ML:((List ag)×(List (Int×Part)))→Option Int:=fun(v0,v1)=>cw (aU (fun v2:Int=>ab (aA v2 (v0.length:Int)) (aa (av v0 v2) fun v3=>aa (Gq (v3,v1)) fun v4=>ab v4 (some (.inr (.inr v2))) (ar (az (v2+1)) <| some (.inl (v2+1)))) (some (.inr (.inl ())))) 0) fun(v2:Unit)=>some (-1)
noncomputable def P7:Sy.Callee:=⟨153,[.list (.st 5),.aL 104 (.box (.map (.int .i64) (.st 4)))],[.int .i64],ML⟩
theorem ad7:aB Tryz.prog P7:=kk [PZ] ⟨adZ,trivial⟩ Tryz.func153 (by kernel_rfl) (fun a=>by kernel_rfl)
noncomputable def Gs:((List ag)×(List (Int×Part)))→Option Bool:=fun(v0,v1)=>aa (ML (v0,v1)) fun v2=>some (leI 0 v2)
noncomputable def P3:Sy.Callee:=⟨107,[.list (.st 5),.aL 104 (.box (.map (.int .i64) (.st 4)))],[.bool],Gs⟩
theorem ad3:aB Tryz.prog P3:=kk [P7] ⟨ad7,trivial⟩ Tryz.func107 (by kernel_rfl) (fun a=>by kernel_rfl)
noncomputable def Gr:(ag×(List (Int×Part)))→Option Bool:=fun(v0,v1)=>aa (qj v0.aM) fun v2=>aa (qj (bB v1 v0.part (⟨0,0,0,0,0,(⟨0,0⟩:Interval),(⟨0,0,0⟩:aE),(⟨0,0,0⟩:aE)⟩:Part)).low) fun v3=>aa (qj (bB v1 v0.part (⟨0,0,0,0,0,(⟨0,0⟩:Interval),(⟨0,0,0⟩:aE),(⟨0,0,0⟩:aE)⟩:Part)).high) fun v4=>aa (k9 (v2,(v3,v4))) fun v5=>some (!v5)
noncomputable def P0:Sy.Callee:=⟨105,[.st 5,.box (.map (.int .i64) (.st 4))],[.bool],Gr⟩
theorem ad0:aB Tryz.prog P0:=kk [Ig,xb] ⟨T3,AS,trivial⟩ Tryz.func105 (by kernel_rfl) (fun a=>by kernel_rfl)
noncomputable def MM:((List ag)×(List (Int×Part)))→Option Int:=fun(v0,v1)=>cw (aU (fun v2:Int=>ab (aA v2 (v0.length:Int)) (aa (av v0 v2) fun v3=>aa (Gr (v3,v1)) fun v4=>ab v4 (some (.inr (.inr v2))) (ar (az (v2+1)) <| some (.inl (v2+1)))) (some (.inr (.inl ())))) 0) fun(v2:Unit)=>some (-1)
noncomputable def P8:Sy.Callee:=⟨153,[.list (.st 5),.aL 105 (.box (.map (.int .i64) (.st 4)))],[.int .i64],MM⟩
theorem ad8:aB Tryz.prog P8:=kk [P0] ⟨ad0,trivial⟩ Tryz.func153 (by kernel_rfl) (fun a=>by kernel_rfl)
noncomputable def Gt:((List ag)×(List (Int×Part)))→Option Bool:=fun(v0,v1)=>aa (MM (v0,v1)) fun v2=>some (leI 0 v2)
noncomputable def P4:Sy.Callee:=⟨107,[.list (.st 5),.aL 105 (.box (.map (.int .i64) (.st 4)))],[.bool],Gt⟩
theorem ad4:aB Tryz.prog P4:=kk [P8] ⟨ad8,trivial⟩ Tryz.func107 (by kernel_rfl) (fun a=>by kernel_rfl)
noncomputable def yo:((List Part)×(List ag))→Option Int:=fun(v0,v1)=>aa (aU (fun v2:(Int×(List (Int×Part)))=>ab (aA v2.1 (v0.length:Int)) (aa (aa (av v0 v2.1) fun v3=>ab (ay v3.of 0) (some (bz v2.2 v3.id v3)) (some v2.2)) fun(v3:(List (Int×Part)))=>ar (az (v2.1+1)) <| some (.inl ((v2.1+1),v3))) (some (.inr v2.2))) (0,([]:List (Int×Part)))) fun(v2:(List (Int×Part)))=>aa (Gs (v1,v2)) fun v3=>ab v3 (some 22) (aa (Gt (v1,v2)) fun v4=>ab v4 (some 20) (some 0))
noncomputable def Ii:Sy.Callee:=⟨55,[.list (.st 4),.list (.st 5)],[.int .i64],yo⟩
theorem T5:aB Tryz.prog Ii:=kk [P3,P4] ⟨ad3,ad4,trivial⟩ Tryz.func55 (by kernel_rfl) (fun a=>by kernel_rfl)
noncomputable def MK:((List ag)×(List ag))→Option Bool:=fun(v0,v1)=>ab (!(ay (v0.length:Int) (v1.length:Int))) (some false) (cw (aU (fun v2:Int=>ab (aA v2 (v0.length:Int)) (aa (av v0 v2) fun v3=>aa (av v1 v2) fun v4=>ab (!(iR v3 v4)) (some (.inr (.inr false))) (ar (az (v2+1)) <| some (.inl (v2+1)))) (some (.inr (.inl ())))) 0) fun(v2:Unit)=>some true)
noncomputable def P6:Sy.Callee:=⟨57,[.list (.st 5),.list (.st 5)],[.bool],MK⟩
theorem ad6:aB Tryz.prog P6:=kk [] trivial Tryz.func57 (by kernel_rfl) (fun a=>by kernel_rfl)
noncomputable def MN:(Part×Int)→Option Bool:=fun(v0,v1)=>some (ay v0.id v1)
noncomputable def Qf:Sy.Callee:=⟨92,[.st 4,.box (.int .i64)],[.bool],MN⟩
theorem aef:aB Tryz.prog Qf:=kk [] trivial Tryz.func92 (by kernel_rfl) (fun a=>by kernel_rfl)
noncomputable def Gw:((List Part)×Int)→Option Int:=fun(v0,v1)=>cw (aU (fun v2:Int=>ab (aA v2 (v0.length:Int)) (aa (av v0 v2) fun v3=>aa (MN (v3,v1)) fun v4=>ab v4 (some (.inr (.inr v2))) (ar (az (v2+1)) <| some (.inl (v2+1)))) (some (.inr (.inl ())))) 0) fun(v2:Unit)=>some (-1)
noncomputable def Qa:Sy.Callee:=⟨91,[.list (.st 4),.aL 92 (.box (.int .i64))],[.int .i64],Gw⟩
theorem aea:aB Tryz.prog Qa:=kk [Qf] ⟨aef,trivial⟩ Tryz.func91 (by kernel_rfl) (fun a=>by kernel_rfl)
noncomputable def yq:(Score×Int)→Option (Reader×Bool):=fun(v0,v1)=>aa (Gw (v0.parts,v1)) fun v2=>ab (aA v2 0) (some ((⟨(⟨0,0,0,0,0,(⟨0,0⟩:Interval),(⟨0,0,0⟩:aE),(⟨0,0,0⟩:aE)⟩:Part)⟩:Reader),false)) (aa (av v0.parts v2) fun v3=>some ((⟨v3⟩:Reader),true))
noncomputable def Db:Sy.Callee:=⟨48,[.st 6,.int .i64],[.st 12,.bool],yq⟩
theorem Lj:aB Tryz.prog Db:=kk [Qa] ⟨aea,trivial⟩ Tryz.func48 (by kernel_rfl) (fun a=>by kernel_rfl)
noncomputable def ya:(Int×Int)→Option Bool:=fun(v0,v1)=>aa (ar (az (j9 v1)) <| ab (leI (j9 v1) v0) (some (leI v0 v1)) (some false)) fun(v2:Bool)=>some v2
noncomputable def OQ:Sy.Callee:=⟨192,[.int .i64,.int .i64],[.bool],ya⟩
theorem acK:aB Tryz.prog OQ:=kk [] trivial Tryz.func192 (by kernel_rfl) (fun a=>by kernel_rfl)
noncomputable def tA:aE→Option Int:=fun(v0)=>aa (tE v0) fun v1=>some v1.1
noncomputable def HI:Sy.Callee:=⟨193,[.st 3],[.int .i64],tA⟩
theorem Ts:aB Tryz.prog HI:=kk [zb] ⟨EP,trivial⟩ Tryz.func193 (by kernel_rfl) (fun a=>by kernel_rfl)
noncomputable def vX:Part→Option Bool:=fun(v0)=>aa (yb v0.shift) fun v1=>aa (ab (ay v1.2 0) (aa (ya (v0.shift.steps,21)) fun v2=>ab v2 (aa (ya (v0.shift.bG,36)) fun v3=>ab v3 (aa (ya (v1.1,12)) fun v4=>some v4) (some false)) (some false)) (some false)) fun(v2:Bool)=>aa (ab v2 (aa (ky v0.low) fun v3=>ab v3 (aa (ky v0.high) fun v4=>ab v4 (aa (tA v0.low) fun v5=>aa (tA v0.high) fun v6=>some (leI v5 v6)) (some false)) (some false)) (some false)) fun(v3:Bool)=>some v3
noncomputable def y6:Sy.Callee:=⟨161,[.st 4],[.bool],vX⟩
theorem EK:aB Tryz.prog y6:=kk [C1,OQ,px,HI] ⟨K9,acK,ry,Ts,trivial⟩ Tryz.func161 (by kernel_rfl) (fun a=>by kernel_rfl)
noncomputable def vY:Int→Option Bool:=fun(v0)=>aa (ab (leI (-7) v0) (some (leI v0 7)) (some false)) fun(v1:Bool)=>some v1
noncomputable def OS:Sy.Callee:=⟨194,[.int .i64],[.bool],vY⟩
theorem acM:aB Tryz.prog OS:=kk [] trivial Tryz.func194 (by kernel_rfl) (fun a=>by kernel_rfl)
noncomputable def yc:(Int×Interval)→Option (Int×(Interval×Int)):=fun(v0,v1)=>aa (yb v1) fun v2=>aa (ab (!(ay v2.2 0)) (some true) (aa (vY v0) fun v3=>some (!v3))) fun(v3:Bool)=>ab v3 (some (0,((⟨0,0⟩:Interval),1))) (ar (az (v2.1+v0)) <| aa (ab (aA 0 (v2.1+v0)) (aa (aU (fun v4:(Int×Int)=>aa (vY v4.2) fun v5=>ab (!v5) (ar (az (1*12)) <| ar (az (v4.2 - (1*12))) <| ar (az (v4.1+1)) <| some (.inl ((v4.1+1),(v4.2 - (1*12))))) (some (.inr (v4.1,v4.2)))) (v1.steps,(v2.1+v0))) fun(v4:(Int×Int))=>some (v4.1,v4.2)) (aa (aU (fun v4:(Int×Int)=>aa (vY v4.2) fun v5=>ab (!v5) (ar (az ((-1)*12)) <| ar (az (v4.2 - ((-1)*12))) <| ar (az (v4.1+(-1))) <| some (.inl ((v4.1+(-1)),(v4.2 - ((-1)*12))))) (some (.inr (v4.1,v4.2)))) (v1.steps,(v2.1+v0))) fun(v4:(Int×Int))=>some (v4.1,v4.2))) fun(v4:(Int×Int))=>some (v4.2,((⟨v4.1,v1.bG⟩:Interval),0)))
noncomputable def C2:Sy.Callee:=⟨162,[.int .i64,.st 2],[.int .i64,.st 2,.int .i64],yc⟩
theorem La:aB Tryz.prog C2:=kk [C1,OS] ⟨K9,acM,trivial⟩ Tryz.func162 (by kernel_rfl) (fun a=>by kernel_rfl)
noncomputable def FK:(Part×Int)→Option (Int×Int):=fun(v0,v1)=>aa (aa (vX v0) fun v2=>ab (!v2) (some (false,0)) (aa (rP v0.shift) fun v3=>aa (yc (v1,v3.1)) fun v4=>aa (ab (!(ay v3.2 0)) (some true) (some (!(ay v4.2.2 0)))) fun(v5:Bool)=>ab v5 (some (false,0)) (some (true,v4.1)))) fun(v2:(Bool×Int))=>ab (!v2.1) (some (0,1)) (some (v2.2,0))
noncomputable def OO:Sy.Callee:=⟨121,[.st 4,.int .i64],[.int .i64,.int .i64],FK⟩
theorem acI:aB Tryz.prog OO:=kk [y6,za,C2] ⟨EK,EO,La,trivial⟩ Tryz.func121 (by kernel_rfl) (fun a=>by kernel_rfl)
noncomputable def BQ:(Reader×(aD×(List Written)))→Option br:=fun(v0,v1,v2)=>aa (FK (v0.part,v1.key)) fun v3=>some (⟨v1.id,v3.1,v1.length,v2⟩:br)
noncomputable def Ik:Sy.Callee:=⟨69,[.st 12,.st 1,.list (.st 7)],[.st 8],BQ⟩
theorem T7:aB Tryz.prog Ik:=kk [OO] ⟨acI,trivial⟩ Tryz.func69 (by kernel_rfl) (fun a=>by kernel_rfl)
noncomputable def tK:Rat→Option Int:=fun(v0)=>aa (aa (tH v0) fun v1=>ab (!v1) (some true) (ab (aA v0.n 0) (some true) (ar (!(ay v0.d 0)) <| some (!(ay (Int.tmod 1680 v0.d) 0))))) fun(v1:Bool)=>ab v1 (some (-1)) (ar (!(ay v0.d 0)) <| ar (az (Int.tdiv 1680 v0.d)) <| ar (az (v0.n*(Int.tdiv 1680 v0.d))) <| some (v0.n*(Int.tdiv 1680 v0.d)))
noncomputable def Il:Sy.Callee:=⟨126,[.st 0],[.int .i64],tK⟩
theorem T8:aB Tryz.prog Il:=kk [ze] ⟨ER,trivial⟩ Tryz.func126 (by kernel_rfl) (fun a=>by kernel_rfl)
noncomputable def FI:Int→Option Bool:=fun(v0)=>some (!(ay v0 v0))
noncomputable def OM:Sy.Callee:=⟨169,[.int .i64],[.bool],FI⟩
theorem acG:aB Tryz.prog OM:=kk [] trivial Tryz.func169 (by kernel_rfl) (fun a=>by kernel_rfl)
noncomputable def vW:(Int×Int)→Option Int:=fun(v0,v1)=>aa (FI v0) fun v2=>aa (FI v1) fun v3=>ab v2 (ab v3 (some 0) (some (-1))) (ab v3 (some 1) (ab (aA v0 v1) (some (-1)) (ab (aA v1 v0) (some 1) (some 0))))
noncomputable def OL:Sy.Callee:=⟨125,[.int .i64,.int .i64],[.int .i64],vW⟩
theorem acF:aB Tryz.prog OL:=kk [OM] ⟨acG,trivial⟩ Tryz.func125 (by kernel_rfl) (fun a=>by kernel_rfl)
noncomputable def BP:Written→Option Int:=fun(v0)=>aa (tE v0.aM) fun v1=>some v1.1
noncomputable def Qi:Sy.Callee:=⟨122,[.st 7],[.int .i64],BP⟩
theorem aei:aB Tryz.prog Qi:=kk [zb] ⟨EP,trivial⟩ Tryz.func122 (by kernel_rfl) (fun a=>by kernel_rfl)
noncomputable def Bg:(List Int)→Option Int:=fun(v0)=>cw (aU (fun v1:Int=>ab (aA v1 (v0.length:Int)) (aa (av v0 v1) fun v2=>ab (!(ay v2 0)) (some (.inr (.inr v2))) (ar (az (v1+1)) <| some (.inl (v1+1)))) (some (.inr (.inl ())))) 0) fun(v1:Unit)=>some 0
noncomputable def HG:Sy.Callee:=⟨124,[.list (.int .i64)],[.int .i64],Bg⟩
theorem Tp:aB Tryz.prog HG:=kk [] trivial Tryz.func124 (by kernel_rfl) (fun a=>by kernel_rfl)
noncomputable def BO:(Written×Written)→Option Int:=fun(v0,v1)=>aa (tK v0.start) fun v2=>aa (tK v1.start) fun v3=>aa (vW (v2,v3)) fun v4=>aa (vW (v0.bm,v1.bm)) fun v5=>aa (BP v0) fun v6=>aa (BP v1) fun v7=>aa (vW (v6,v7)) fun v8=>aa (vW (v0.id,v1.id)) fun v9=>aa (Bg (v4::(v5::(v8::(v9::([]:List Int)))))) fun v10=>some v10
noncomputable def Qh:Sy.Callee:=⟨71,[.st 7,.st 7],[.int .i64],BO⟩
theorem aeh:aB Tryz.prog Qh:=kk [Il,OL,Qi,HG] ⟨T8,acF,aei,Tp,trivial⟩ Tryz.func71 (by kernel_rfl) (fun a=>by kernel_rfl)
noncomputable def Gx:((List Written)×Unit)→Option Bool:=fun(v0,v1)=>cw (ar (az ((v0.length:Int) - 1)) <| aU (fun v2:Int=>ab (aA 0 v2) (aa (av v0 v2) fun v3=>ar (az (v2 - 1)) <| aa (av v0 (v2 - 1)) fun v4=>aa (BO (v3,v4)) fun v5=>ab (aA v5 0) (some (.inr (.inr false))) (ar (az (v2 - 1)) <| some (.inl (v2 - 1)))) (some (.inr (.inl ())))) ((v0.length:Int) - 1)) fun(v2:Unit)=>some true
noncomputable def Qb:Sy.Callee:=⟨70,[.list (.st 7),.fn 71],[.bool],Gx⟩
theorem aeb:aB Tryz.prog Qb:=kk [Qh] ⟨aeh,trivial⟩ Tryz.func70 (by kernel_rfl) (fun a=>by kernel_rfl)
noncomputable def BS:(Int×(Int×Int))→Option Bool:=fun(v0,v1,v2)=>aa (ab (leI v1 v0) (some (leI v0 v2)) (some false)) fun(v3:Bool)=>some v3
noncomputable def Qk:Sy.Callee:=⟨127,[.int .i64,.int .i64,.int .i64],[.bool],BS⟩
theorem aek:aB Tryz.prog Qk:=kk [] trivial Tryz.func127 (by kernel_rfl) (fun a=>by kernel_rfl)
noncomputable def BN:(Written×Rat)→Option Bool:=fun(v0,v1)=>aa (aa (BS (v0.id,(1,1000000))) fun v2=>ab v2 (aa (BS (v0.bm,(0,9))) fun v3=>ab v3 (aa (BS (v0.bH,(0,20))) fun v4=>some v4) (some false)) (some false)) fun(v2:Bool)=>aa (tK v0.start) fun v3=>aa (tK v0.length) fun v4=>aa (ab v2 (aa (ky v0.aM) fun v5=>ab v5 (ab (leI 0 v3) (ab (aA 0 v4) (ar (az (v3+v4)) <| aa (tK v1) fun v6=>some (leI (v3+v4) v6)) (some false)) (some false)) (some false)) (some false)) fun(v5:Bool)=>some v5
noncomputable def Qg:Sy.Callee:=⟨72,[.st 7,.st 0],[.bool],BN⟩
theorem aeg:aB Tryz.prog Qg:=kk [Qk,Il,px] ⟨aek,T8,ry,trivial⟩ Tryz.func72 (by kernel_rfl) (fun a=>by kernel_rfl)
noncomputable def MH:Part→Option Int:=fun(v0)=>some v0.id
noncomputable def PW:Sy.Callee:=⟨66,[.st 4],[.int .i64],MH⟩
theorem adW:aB Tryz.prog PW:=kk [] trivial Tryz.func66 (by kernel_rfl) (fun a=>by kernel_rfl)
noncomputable def BL:((List Part)×(Int×Unit))→Option (Int×Bool):=fun(v0,v1,v2)=>aa (cw (aU (fun v3:Int=>ab (aA v3 (v0.length:Int)) (aa (av v0 v3) fun v4=>aa (MH v4) fun v5=>ab (ay v5 v1) (some (.inr (.inr v3))) (ar (az (v3+1)) <| some (.inl (v3+1)))) (some (.inr (.inl ())))) 0) fun(v3:Unit)=>some (-1)) fun(v3:Int)=>some ((max v3 0),(leI 0 v3))
noncomputable def Ih:Sy.Callee:=⟨65,[.list (.st 4),.int .i64,.fn 66],[.int .i64,.bool],BL⟩
theorem T4:aB Tryz.prog Ih:=kk [PW] ⟨adW,trivial⟩ Tryz.func65 (by kernel_rfl) (fun a=>by kernel_rfl)
noncomputable def Mp:(oo×(View×(List (Int×Bool))))→Option (View×(oo×(List (Int×Bool)))):=fun(v0,v1,v2)=>some (v1,(v0,v2))
noncomputable def OY:Sy.Callee:=⟨36,[.st 11,.st 9,.map (.int .i64) (.bool)],[.aL 75 (.aI (.box (.st 9)) (.aI (.box (.st 11)) (.box (.map (.int .i64) (.bool)))))],Mp⟩
theorem acY:aB Tryz.prog OY:=kk [] trivial Tryz.func36 (by kernel_rfl) (fun a=>by kernel_rfl)
noncomputable def Ms:aE→Option Int:=fun(v0)=>ar (az (7*v0.au)) <| ar (az ((7*v0.au)+v0.step)) <| some ((7*v0.au)+v0.step)
noncomputable def O9:Sy.Callee:=⟨166,[.st 3],[.int .i64],Ms⟩
theorem ada:aB Tryz.prog O9:=kk [] trivial Tryz.func166 (by kernel_rfl) (fun a=>by kernel_rfl)
noncomputable def FX:(Int×Int)→Option (Int×Int):=fun(v0,v1)=>ar (!(ay v1 0)) <| ar (az (Int.tdiv v0 v1)) <| ar (!(ay v1 0)) <| ab (aA (Int.tmod v0 v1) 0) (ar (az ((Int.tdiv v0 v1) - 1)) <| ar (az ((Int.tmod v0 v1)+v1)) <| some (((Int.tdiv v0 v1) - 1),((Int.tmod v0 v1)+v1))) (some ((Int.tdiv v0 v1),(Int.tmod v0 v1)))
noncomputable def Pa:Sy.Callee:=⟨165,[.int .i64,.int .i64],[.int .i64,.int .i64],FX⟩
theorem adb:aB Tryz.prog Pa:=kk [] trivial Tryz.func165 (by kernel_rfl) (fun a=>by kernel_rfl)
noncomputable def Bq:(aE×Interval)→Option (aE×Int):=fun(v0,v1)=>aa (aa (ky v0) fun v2=>ab (!v2) (some true) (aa (wc v1) fun v3=>some (!v3))) fun(v2:Bool)=>ab v2 (some ((⟨0,0,0⟩:aE),1)) (ab (Oy v1 (⟨0,0⟩:Interval)) (some (v0,0)) (aa (Ms v0) fun v3=>ar (az (v3+v1.steps)) <| aa (FX ((v3+v1.steps),7)) fun v4=>aa (tF v0) fun v5=>ar (az (v5+v1.bG)) <| aa (tF (⟨v4.2,0,v4.1⟩:aE)) fun v6=>ar (az ((v5+v1.bG) - v6)) <| aa (ky (⟨v4.2,((v5+v1.bG) - v6),v4.1⟩:aE)) fun v7=>ab (!v7) (some ((⟨0,0,0⟩:aE),3)) (some ((⟨v4.2,((v5+v1.bG) - v6),v4.1⟩:aE),0))))
noncomputable def HQ:Sy.Callee:=⟨118,[.st 3,.st 2],[.st 3,.int .i64],Bq⟩
theorem TB:aB Tryz.prog HQ:=kk [px,HR,O9,Pa,HS] ⟨ry,TC,ada,adb,TE,trivial⟩ Tryz.func118 (by kernel_rfl) (fun a=>by kernel_rfl)
noncomputable def Bh:(Part×(Int×aE))→Option (aE×Int):=fun(v0,v1,v2)=>aa (aa (aa (vX v0) fun v3=>ab (!v3) (some (false,(0,0))) (aa (rP v0.shift) fun v4=>aa (yc (v1,v4.1)) fun v5=>aa (ab (!(ay v4.2 0)) (some true) (some (!(ay v5.2.2 0)))) fun(v6:Bool)=>ab v6 (some (false,(0,0))) (some (true,(v5.2.1.steps,v5.2.1.bG))))) fun(v3:(Bool×(Int×Int)))=>ab (!v3.1) (some (true,(v3.2.1,v3.2.2))) (aa (ky v2) fun v4=>some ((!v4),(v3.2.1,v3.2.2)))) fun(v3:(Bool×(Int×Int)))=>ab v3.1 (some ((⟨0,0,0⟩:aE),1)) (aa (rP (⟨v3.2.1,v3.2.2⟩:Interval)) fun v4=>ab (!(ay v4.2 0)) (some ((⟨0,0,0⟩:aE),v4.2)) (aa (Bq (v2,v4.1)) fun v5=>some (v5.1,v5.2)))
noncomputable def HH:Sy.Callee:=⟨64,[.st 4,.int .i64,.st 3],[.st 3,.int .i64],Bh⟩
theorem Tq:aB Tryz.prog HH:=kk [y6,za,C2,px,HQ] ⟨EK,EO,La,ry,TB,trivial⟩ Tryz.func64 (by kernel_rfl) (fun a=>by kernel_rfl)
noncomputable def Mq:(oo×(Int×aE))→Option (aE×Bool):=fun(v0,v1,v2)=>aa (Bh (v0.part,(v1,v2))) fun v3=>ab (!(ay v3.2 0)) (some (v3.1,false)) (ar (az (v3.1.au - v0.part.au)) <| some ((⟨v3.1.step,v3.1.alter,(v3.1.au - v0.part.au)⟩:aE),true))
noncomputable def O1:Sy.Callee:=⟨129,[.st 11,.int .i64,.st 3],[.st 3,.bool],Mq⟩
theorem ac1:aB Tryz.prog O1:=kk [HH] ⟨Tq,trivial⟩ Tryz.func129 (by kernel_rfl) (fun a=>by kernel_rfl)
noncomputable def FJ:(Part×aE)→Option (Bool×Int):=fun(v0,v1)=>aa (aa (vX v0) fun v2=>ab (!v2) (some true) (aa (ky v1) fun v3=>some (!v3))) fun(v2:Bool)=>ab v2 (some (false,1)) (aa (tA v1) fun v3=>aa (aa (tA v0.low) fun v4=>ab (leI v4 v3) (aa (tA v0.high) fun v5=>some (leI v3 v5)) (some false)) fun(v4:Bool)=>some (v4,0))
noncomputable def ON:Sy.Callee:=⟨170,[.st 4,.st 3],[.bool,.int .i64],FJ⟩
theorem acH:aB Tryz.prog ON:=kk [y6,px,HI] ⟨EK,ry,Ts,trivial⟩ Tryz.func170 (by kernel_rfl) (fun a=>by kernel_rfl)
noncomputable def FP:(oo×ag)→Option Bool:=fun(v0,v1)=>aa (wa (v0.of.bars,(v1::([]:List ag)))) fun v2=>ab (!v2) (some false) (aa (FJ (v0.owner,v1.aM)) fun v3=>aa (ab v3.1 (some (ay v3.2 0)) (some false)) fun(v4:Bool)=>some v4)
noncomputable def OZ:Sy.Callee:=⟨130,[.st 11,.st 5],[.bool],FP⟩
theorem acZ:aB Tryz.prog OZ:=kk [y9,ON] ⟨EN,acH,trivial⟩ Tryz.func130 (by kernel_rfl) (fun a=>by kernel_rfl)
noncomputable def FQ:(oo×(aD×Written))→Option (ag×Int):=fun(v0,v1,v2)=>aa (Mq (v0,(v1.key,v2.aM))) fun v3=>aa (ab (!v3.2) (some true) (aa (FP (v0,(⟨v2.id,v0.owner.id,v1.id,v2.bm,v2.bH,v2.start,v2.length,v3.1⟩:ag))) fun v4=>some (!v4))) fun(v4:Bool)=>ab v4 (some ((⟨v2.id,v0.owner.id,v1.id,v2.bm,v2.bH,v2.start,v2.length,v3.1⟩:ag),20)) (some ((⟨v2.id,v0.owner.id,v1.id,v2.bm,v2.bH,v2.start,v2.length,v3.1⟩:ag),0))
noncomputable def O0:Sy.Callee:=⟨76,[.st 11,.st 1,.st 7],[.st 5,.int .i64],FQ⟩
theorem ac0:aB Tryz.prog O0:=kk [O1,OZ] ⟨ac1,acZ,trivial⟩ Tryz.func76 (by kernel_rfl) (fun a=>by kernel_rfl)
noncomputable def MI:(List aD)→Option (List aD):=fun(v0)=>rL (List.isEmpty v0) (some ([]:List aD)) (ar (decide ((List.append ([]:List aD) v0).length*32≤140737488355328∧(List.append ([]:List aD) v0).length≤9223372036854775807)) <| some (List.append ([]:List aD) v0))
noncomputable def P1:Sy.Callee:=⟨77,[.list (.st 1)],[.list (.st 1)],MI⟩
theorem ad1:aB Tryz.prog P1:=kk [] trivial Tryz.func77 (by kernel_rfl) (fun a=>by kernel_rfl)
noncomputable def MJ:(List Part)→Option (List Part):=fun(v0)=>rL (List.isEmpty v0) (some ([]:List Part)) (ar (decide ((List.append ([]:List Part) v0).length*104≤140737488355328∧(List.append ([]:List Part) v0).length≤9223372036854775807)) <| some (List.append ([]:List Part) v0))
noncomputable def P2:Sy.Callee:=⟨78,[.list (.st 4)],[.list (.st 4)],MJ⟩
theorem ad2:aB Tryz.prog P2:=kk [] trivial Tryz.func78 (by kernel_rfl) (fun a=>by kernel_rfl)
noncomputable def F3:(Int×Int)→Option Int:=fun(v0,v1)=>aa (aU (fun v2:(Int×Int)=>ab (!(ay v2.2 0)) (ar (!(ay v2.2 0)) <| some (.inl (v2.2,(Int.tmod v2.1 v2.2)))) (some (.inr v2.1))) (v0,v1)) fun(v2:Int)=>some v2
noncomputable def Ph:Sy.Callee:=⟨157,[.int .i64,.int .i64],[.int .i64],F3⟩
theorem adk:aB Tryz.prog Ph:=kk [] trivial Tryz.func157 (by kernel_rfl) (fun a=>by kernel_rfl)
noncomputable def ni:Rat→Option Int:=fun(v0)=>aa (ab (aA v0.d 1) (some true) (ar (!(ay v0.d 0)) <| ab (!(ay (Int.tmod 1680 v0.d) 0)) (some true) (ab (aA v0.n 0) (some true) (ab (aA 1000000000 v0.n) (some true) (aa (F3 (v0.n,v0.d)) fun v1=>some (!(ay v1 1))))))) fun(v1:Bool)=>ab v1 (some (-1)) (ar (!(ay v0.d 0)) <| ar (az (Int.tdiv 1680 v0.d)) <| ar (az (v0.n*(Int.tdiv 1680 v0.d))) <| some (v0.n*(Int.tdiv 1680 v0.d)))
noncomputable def wZ:Sy.Callee:=⟨109,[.st 0],[.int .i64],ni⟩
theorem AP:aB Tryz.prog wZ:=kk [Ph] ⟨adk,trivial⟩ Tryz.func109 (by kernel_rfl) (fun a=>by kernel_rfl)
noncomputable def Bv:(List aD)→Option Bool:=fun(v0)=>aa (ab (aA (v0.length:Int) 1) (some true) (some (aA 4000 (v0.length:Int)))) fun(v1:Bool)=>ab v1 (some false) (cw (aU (fun v2:Int=>ab (aA v2 (v0.length:Int)) (cw (aa (av v0 v2) fun v3=>aa (ni v3.length) fun v4=>aa (aa (av v0 v2) fun v5=>ab (aA v5.id 1) (some true) (aa (av v0 v2) fun v6=>ab (aA 1000000 v6.id) (some true) (ab (aA v4 1) (some true) (ab (aA 40320 v4) (some true) (aa (av v0 v2) fun v7=>ab (aA v7.key (-7)) (some true) (aa (av v0 v2) fun v8=>some (aA 7 v8.key))))))) fun(v5:Bool)=>ab v5 (some (.inr (.inr (.inr false)))) (aU (fun v6:Int=>ab (aA v6 v2) (aa (av v0 v6) fun v7=>aa (av v0 v2) fun v8=>ab (ay v7.id v8.id) (some (.inr (.inr (.inr (.inr false))))) (ar (az (v6+1)) <| some (.inl (v6+1)))) (some (.inr (.inl ())))) 0)) fun(v3:Unit)=>ar (az (v2+1)) <| some (.inl (v2+1))) (some (.inr (.inl ())))) 0) fun(v2:Unit)=>some true)
noncomputable def HY:Sy.Callee:=⟨58,[.list (.st 1)],[.bool],Bv⟩
theorem TL:aB Tryz.prog HY:=kk [wZ] ⟨AP,trivial⟩ Tryz.func58 (by kernel_rfl) (fun a=>by kernel_rfl)
noncomputable def nj:(Int×(Int×Int))→Option Bool:=fun(v0,v1,v2)=>aa (ab (leI v1 v0) (some (leI v0 v2)) (some false)) fun(v3:Bool)=>some v3
noncomputable def w9:Sy.Callee:=⟨60,[.int .i64,.int .i64,.int .i64],[.bool],nj⟩
theorem AQ:aB Tryz.prog w9:=kk [] trivial Tryz.func60 (by kernel_rfl) (fun a=>by kernel_rfl)
noncomputable def F1:(Int×(Int×Int))→Option Bool:=fun(v0,v1,v2)=>aa (ab (leI v1 v0) (some (leI v0 v2)) (some false)) fun(v3:Bool)=>some v3
noncomputable def Pg:Sy.Callee:=⟨218,[.int .i64,.int .i64,.int .i64],[.bool],F1⟩
theorem adj:aB Tryz.prog Pg:=kk [] trivial Tryz.func218 (by kernel_rfl) (fun a=>by kernel_rfl)
noncomputable def Mv:Interval→Option Bool:=fun(v0)=>aa (aa (F1 (v0.steps,((-70),70))) fun v1=>ab v1 (aa (F1 (v0.bG,((-120),120))) fun v2=>some v2) (some false)) fun(v1:Bool)=>some v1
noncomputable def Pe:Sy.Callee:=⟨213,[.st 2],[.bool],Mv⟩
theorem adh:aB Tryz.prog Pe:=kk [Pg] ⟨adj,trivial⟩ Tryz.func213 (by kernel_rfl) (fun a=>by kernel_rfl)
noncomputable def Bt:Interval→Option (Int×Int):=fun(v0)=>aa (Mv v0) fun v1=>ab (!v1) (some (0,1)) (ar (az (7*v0.bG)) <| ar (az (12*v0.steps)) <| ar (az ((7*v0.bG) - (12*v0.steps))) <| some (((7*v0.bG) - (12*v0.steps)),0))
noncomputable def HX:Sy.Callee:=⟨191,[.st 2],[.int .i64,.int .i64],Bt⟩
theorem TK:aB Tryz.prog HX:=kk [Pe] ⟨adh,trivial⟩ Tryz.func191 (by kernel_rfl) (fun a=>by kernel_rfl)
noncomputable def F9:Interval→Option Bool:=fun(v0)=>aa (Bt v0) fun v1=>aa (ab (ay v1.2 0) (aa (nj (v0.steps,((-21),21))) fun v2=>ab v2 (aa (nj (v0.bG,((-36),36))) fun v3=>ab v3 (aa (nj (v1.1,((-12),12))) fun v4=>some v4) (some false)) (some false)) (some false)) fun(v2:Bool)=>some v2
noncomputable def Pv:Sy.Callee:=⟨158,[.st 2],[.bool],F9⟩
theorem adw:aB Tryz.prog Pv:=kk [HX,w9] ⟨TK,AQ,trivial⟩ Tryz.func158 (by kernel_rfl) (fun a=>by kernel_rfl)
noncomputable def rQ:(Int×(Int×Int))→Option Bool:=fun(v0,v1,v2)=>aa (ab (leI v1 v0) (some (leI v0 v2)) (some false)) fun(v3:Bool)=>some v3
noncomputable def C4:Sy.Callee:=⟨140,[.int .i64,.int .i64,.int .i64],[.bool],rQ⟩
theorem Lc:aB Tryz.prog C4:=kk [] trivial Tryz.func140 (by kernel_rfl) (fun a=>by kernel_rfl)
noncomputable def oc:aE→Option Bool:=fun(v0)=>aa (rQ (v0.step,(0,6))) fun v1=>aa (rQ (v0.alter,((-4),4))) fun v2=>aa (ab v1 (ab v2 (aa (rQ (v0.au,((-8),20))) fun v3=>some v3) (some false)) (some false)) fun(v3:Bool)=>some v3
noncomputable def ui:Sy.Callee:=⟨133,[.st 3],[.bool],oc⟩
theorem xQ:aB Tryz.prog ui:=kk [C4] ⟨Lc,trivial⟩ Tryz.func133 (by kernel_rfl) (fun a=>by kernel_rfl)
noncomputable def Mu:Int→Option Int:=fun(v0)=>ar (az (2*v0)) <| aa (ab (aA 2 v0) (ar (az ((2*v0) - 1)) <| some ((2*v0) - 1)) (some (2*v0))) fun(v1:Int)=>some v1
noncomputable def Pd:Sy.Callee:=⟨172,[.int .i64],[.int .i64],Mu⟩
theorem adg:aB Tryz.prog Pd:=kk [] trivial Tryz.func172 (by kernel_rfl) (fun a=>by kernel_rfl)
noncomputable def jE:aE→Option Int:=fun(v0)=>ar (az (12*v0.au)) <| aa (Mu v0.step) fun v1=>ar (az ((12*v0.au)+v1)) <| ar (az (((12*v0.au)+v1)+v0.alter)) <| some (((12*v0.au)+v1)+v0.alter)
noncomputable def uh:Sy.Callee:=⟨134,[.st 3],[.int .i64],jE⟩
theorem xP:aB Tryz.prog uh:=kk [Pd] ⟨adg,trivial⟩ Tryz.func134 (by kernel_rfl) (fun a=>by kernel_rfl)
noncomputable def F7:Part→Option Bool:=fun(v0)=>aa (nj (v0.id,(1,1000000))) fun v1=>aa (nj (v0.mA,(0,99))) fun v2=>aa (nj (v0.of,(0,1000000))) fun v3=>aa (nj (v0.au,((-2),2))) fun v4=>aa (nj (v0.ma,(1,40))) fun v5=>aa (F9 v0.shift) fun v6=>aa (oc v0.low) fun v7=>aa (oc v0.high) fun v8=>aa (ab (!v1) (some true) (ab (!v2) (some true) (ab (!v3) (some true) (ab (!v4) (some true) (ab (!v5) (some true) (ab (!v6) (some true) (ab (!v7) (some true) (some (!v8))))))))) fun(v9:Bool)=>ab v9 (some false) (aa (ab (!(ay v0.of v0.id)) (ab (!(ay v0.of 0)) (aa (jE v0.low) fun v10=>aa (jE v0.high) fun v11=>some (leI v10 v11)) (ab (ay v0.au 0) (aa (jE v0.low) fun v10=>aa (jE v0.high) fun v11=>some (leI v10 v11)) (some false))) (some false)) fun(v10:Bool)=>some v10)
noncomputable def Pr:Sy.Callee:=⟨110,[.st 4],[.bool],F7⟩
theorem ads:aB Tryz.prog Pr:=kk [w9,Pv,ui,uh] ⟨AQ,adw,xQ,xP,trivial⟩ Tryz.func110 (by kernel_rfl) (fun a=>by kernel_rfl)
noncomputable def qi:((List Part)×Int)→Option Int:=fun(v0,v1)=>cw (aU (fun v2:Int=>ab (aA v2 (v0.length:Int)) (aa (av v0 v2) fun v3=>ab (ay v3.id v1) (some (.inr (.inr v2))) (ar (az (v2+1)) <| some (.inl (v2+1)))) (some (.inr (.inl ())))) 0) fun(v2:Unit)=>some (-1)
noncomputable def uj:Sy.Callee:=⟨26,[.list (.st 4),.int .i64],[.int .i64],qi⟩
theorem xR:aB Tryz.prog uj:=kk [] trivial Tryz.func26 (by kernel_rfl) (fun a=>by kernel_rfl)
noncomputable def F8:(List Part)→Option Bool:=fun(v0)=>aa (ab (aA (v0.length:Int) 1) (some true) (some (aA 60 (v0.length:Int)))) fun(v1:Bool)=>ab v1 (some false) (cw (aU (fun v2:Int=>ab (aA v2 (v0.length:Int)) (cw (aa (av v0 v2) fun v3=>aa (F7 v3) fun v4=>aa (ab (!v4) (some true) (aa (av v0 v2) fun v5=>aa (qi (v0,v5.id)) fun v6=>some (!(ay v6 v2)))) fun(v5:Bool)=>ab v5 (some (.inr (.inr (.inr false)))) (aa (av v0 v2) fun v6=>ab (ay v6.of 0) (some (.inl ())) (aa (av v0 v2) fun v7=>aa (qi (v0,v7.of)) fun v8=>ab (aA v8 0) (some (.inr (.inr (.inr false)))) (aa (av v0 v8) fun v9=>ab (!(ay v9.of 0)) (some (.inr (.inr (.inr false)))) (some (.inl ())))))) fun(v3:Unit)=>ar (az (v2+1)) <| some (.inl (v2+1))) (some (.inr (.inl ())))) 0) fun(v2:Unit)=>some true)
noncomputable def Ps:Sy.Callee:=⟨59,[.list (.st 4)],[.bool],F8⟩
theorem adt:aB Tryz.prog Ps:=kk [Pr,uj] ⟨ads,xR,trivial⟩ Tryz.func59 (by kernel_rfl) (fun a=>by kernel_rfl)
noncomputable def Bw:((List aD)×Int)→Option Int:=fun(v0,v1)=>cw (aU (fun v2:Int=>ab (aA v2 (v0.length:Int)) (aa (av v0 v2) fun v3=>ab (ay v3.id v1) (some (.inr (.inr v2))) (ar (az (v2+1)) <| some (.inl (v2+1)))) (some (.inr (.inl ())))) 0) fun(v2:Unit)=>some (-1)
noncomputable def HZ:Sy.Callee:=⟨159,[.list (.st 1),.int .i64],[.int .i64],Bw⟩
theorem TM:aB Tryz.prog HZ:=kk [] trivial Tryz.func159 (by kernel_rfl) (fun a=>by kernel_rfl)
noncomputable def Bs:aE→Option Bool:=fun(v0)=>aa (oc v0) fun v1=>aa (ab v1 (aa (rQ (v0.alter,((-2),2))) fun v2=>ab v2 (aa (rQ (v0.au,(0,9))) fun v3=>some v3) (some false)) (some false)) fun(v2:Bool)=>some v2
noncomputable def HW:Sy.Callee:=⟨85,[.st 3],[.bool],Bs⟩
theorem TJ:aB Tryz.prog HW:=kk [ui,C4] ⟨xQ,Lc,trivial⟩ Tryz.func85 (by kernel_rfl) (fun a=>by kernel_rfl)
noncomputable def yg:(Int×(Int×Int))→Option Bool:=fun(v0,v1,v2)=>aa (ab (leI v1 v0) (some (leI v0 v2)) (some false)) fun(v3:Bool)=>some v3
noncomputable def Pn:Sy.Callee:=⟨160,[.int .i64,.int .i64,.int .i64],[.bool],yg⟩
theorem ado:aB Tryz.prog Pn:=kk [] trivial Tryz.func160 (by kernel_rfl) (fun a=>by kernel_rfl)
noncomputable def F4:((List aD)×ag)→Option Bool:=fun(v0,v1)=>aa (Bw (v0,v1.aZ)) fun v2=>aa (Bs v1.aM) fun v3=>aa (ab (aA v2 0) (some true) (ab (!v3) (some true) (aa (yg (v1.id,(1,1000000))) fun v4=>ab (!v4) (some true) (aa (yg (v1.part,(1,1000000))) fun v5=>ab (!v5) (some true) (aa (yg (v1.bm,(0,9))) fun v6=>ab (!v6) (some true) (aa (yg (v1.bH,(0,20))) fun v7=>some (!v7))))))) fun(v4:Bool)=>ab v4 (some false) (aa (ni v1.start) fun v5=>aa (ni v1.length) fun v6=>aa (ab (leI 0 v5) (ab (aA 0 v6) (ar (az (v5+v6)) <| aa (av v0 v2) fun v7=>aa (ni v7.length) fun v8=>some (leI (v5+v6) v8)) (some false)) (some false)) fun(v7:Bool)=>some v7)
noncomputable def Pj:Sy.Callee:=⟨111,[.list (.st 1),.st 5],[.bool],F4⟩
theorem adl:aB Tryz.prog Pj:=kk [HZ,HW,Pn,wZ] ⟨TM,TJ,ado,AP,trivial⟩ Tryz.func111 (by kernel_rfl) (fun a=>by kernel_rfl)
noncomputable def Bz:((List aD)×(List ag))→Option Bool:=fun(v0,v1)=>aa (Bv v0) fun v2=>aa (ab (!v2) (some true) (some (aA 20000 (v1.length:Int)))) fun(v3:Bool)=>ab v3 (some false) (cw (aU (fun v4:Int=>ab (aA v4 (v1.length:Int)) (cw (aa (av v1 v4) fun v5=>aa (F4 (v0,v5)) fun v6=>ab (!v6) (some (.inr (.inr (.inr false)))) (aU (fun v7:Int=>ab (aA v7 v4) (aa (av v1 v7) fun v8=>aa (av v1 v4) fun v9=>ab (ay v8.id v9.id) (some (.inr (.inr (.inr (.inr false))))) (ar (az (v7+1)) <| some (.inl (v7+1)))) (some (.inr (.inl ())))) 0)) fun(v5:Unit)=>ar (az (v4+1)) <| some (.inl (v4+1))) (some (.inr (.inl ())))) 0) fun(v4:Unit)=>some true)
noncomputable def H2:Sy.Callee:=⟨61,[.list (.st 1),.list (.st 5)],[.bool],Bz⟩
theorem TO:aB Tryz.prog H2:=kk [HY,Pj] ⟨TL,adl,trivial⟩ Tryz.func61 (by kernel_rfl) (fun a=>by kernel_rfl)
noncomputable def yh:((List Part)×ag)→Option Int:=fun(v0,v1)=>aa (qi (v0,v1.part)) fun v2=>ab (aA v2 0) (some (-1)) (aa (av v0 v2) fun v3=>ab (!(ay v3.of 0)) (some (-1)) (some v2))
noncomputable def Pq:Sy.Callee:=⟨112,[.list (.st 4),.st 5],[.int .i64],yh⟩
theorem adr:aB Tryz.prog Pq:=kk [uj] ⟨xR,trivial⟩ Tryz.func112 (by kernel_rfl) (fun a=>by kernel_rfl)
noncomputable def yi:(Part×aE)→Option Bool:=fun(v0,v1)=>aa (jE v1) fun v2=>aa (jE v0.low) fun v3=>aa (jE v0.high) fun v4=>aa (nj (v2,(v3,v4))) fun v5=>some v5
noncomputable def H4:Sy.Callee:=⟨86,[.st 4,.st 3],[.bool],yi⟩
theorem TQ:aB Tryz.prog H4:=kk [uh,w9] ⟨xP,AQ,trivial⟩ Tryz.func86 (by kernel_rfl) (fun a=>by kernel_rfl)
noncomputable def yk:((List Part)×(List ag))→Option Int:=fun(v0,v1)=>cw (aU (fun v2:Int=>ab (aA v2 (v1.length:Int)) (aa (av v1 v2) fun v3=>aa (yh (v0,v3)) fun v4=>ab (aA v4 0) (some (.inr (.inr 22))) (ar (az (v2+1)) <| some (.inl (v2+1)))) (some (.inr (.inl ())))) 0) fun(v2:Unit)=>cw (aU (fun v3:Int=>ab (aA v3 (v1.length:Int)) (aa (av v1 v3) fun v4=>aa (yh (v0,v4)) fun v5=>aa (av v0 v5) fun v6=>aa (av v1 v3) fun v7=>aa (yi (v6,v7.aM)) fun v8=>ab (!v8) (some (.inr (.inr 20))) (ar (az (v3+1)) <| some (.inl (v3+1)))) (some (.inr (.inl ())))) 0) fun(v3:Unit)=>some 0
noncomputable def H5:Sy.Callee:=⟨62,[.list (.st 4),.list (.st 5)],[.int .i64],yk⟩
theorem TR:aB Tryz.prog H5:=kk [Pq,H4] ⟨adr,TQ,trivial⟩ Tryz.func62 (by kernel_rfl) (fun a=>by kernel_rfl)
noncomputable def BA:((List aD)×ag)→Option (List Int):=fun(v0,v1)=>aa (Bw (v0,v1.aZ)) fun v2=>aa (ni v1.start) fun v3=>aa (jE v1.aM) fun v4=>some (v2::(v1.part::(v3::(v1.bm::(v4::(v1.id::([]:List Int)))))))
noncomputable def Po:Sy.Callee:=⟨113,[.list (.st 1),.st 5],[.list (.int .i64)],BA⟩
theorem adp:aB Tryz.prog Po:=kk [HZ,wZ,uh] ⟨TM,AP,xP,trivial⟩ Tryz.func113 (by kernel_rfl) (fun a=>by kernel_rfl)
noncomputable def By:((List aD)×(ag×ag))→Option Bool:=fun(v0,v1,v2)=>aa (BA (v0,v1)) fun v3=>aa (BA (v0,v2)) fun v4=>cw (aU (fun v5:Int=>ab (aA v5 (v3.length:Int)) (aa (av v3 v5) fun v6=>aa (av v4 v5) fun v7=>ab (!(ay v6 v7)) (aa (av v3 v5) fun v8=>aa (av v4 v5) fun v9=>some (.inr (.inr (aA v8 v9)))) (ar (az (v5+1)) <| some (.inl (v5+1)))) (some (.inr (.inl ())))) 0) fun(v5:Unit)=>some false
noncomputable def H0:Sy.Callee:=⟨63,[.list (.st 1),.st 5,.st 5],[.bool],By⟩
theorem TN:aB Tryz.prog H0:=kk [Po] ⟨adp,trivial⟩ Tryz.func63 (by kernel_rfl) (fun a=>by kernel_rfl)
noncomputable def yj:Score→Option Bool:=fun(v0)=>aa (Bv v0.bars) fun v1=>aa (F8 v0.parts) fun v2=>aa (aa (nj (v0.version,(1,1000000))) fun v3=>ab (!v3) (some true) (ab (!v1) (some true) (some (!v2)))) fun(v3:Bool)=>ab v3 (some false) (aa (Bz (v0.bars,v0.notes)) fun v4=>ab (!v4) (some false) (aa (yk (v0.parts,v0.notes)) fun v5=>ab (!(ay v5 0)) (some false) (cw (aU (fun v6:Int=>ab (aA v6 (v0.notes.length:Int)) (ar (az (v6 - 1)) <| aa (av v0.notes (v6 - 1)) fun v7=>aa (av v0.notes v6) fun v8=>aa (By (v0.bars,(v7,v8))) fun v9=>ab (!v9) (some (.inr (.inr false))) (ar (az (v6+1)) <| some (.inl (v6+1)))) (some (.inr (.inl ())))) 1) fun(v6:Unit)=>some true)))
noncomputable def C8:Sy.Callee:=⟨24,[.st 6],[.bool],yj⟩
theorem Li:aB Tryz.prog C8:=kk [HY,Ps,w9,H2,H5,H0] ⟨TL,adt,AQ,TO,TR,TN,trivial⟩ Tryz.func24 (by kernel_rfl) (fun a=>by kernel_rfl)
noncomputable def MB:br→Option br:=fun(v0)=>some (⟨v0.aZ,v0.key,v0.length,([]:List Written)⟩:br)
noncomputable def PI:Sy.Callee:=⟨80,[.st 8],[.st 8],MB⟩
theorem adI:aB Tryz.prog PI:=kk [] trivial Tryz.func80 (by kernel_rfl) (fun a=>by kernel_rfl)
noncomputable def BD:(Int×(Int×Int))→Option Bool:=fun(v0,v1,v2)=>aa (ab (leI v1 v0) (some (leI v0 v2)) (some false)) fun(v3:Bool)=>some v3
noncomputable def PA:Sy.Callee:=⟨173,[.int .i64,.int .i64,.int .i64],[.bool],BD⟩
theorem adB:aB Tryz.prog PA:=kk [] trivial Tryz.func173 (by kernel_rfl) (fun a=>by kernel_rfl)
noncomputable def BC:Part→Option Bool:=fun(v0)=>aa (oc v0.low) fun v1=>aa (oc v0.high) fun v2=>ar (az (7*v0.shift.bG)) <| ar (az (12*v0.shift.steps)) <| ar (az ((7*v0.shift.bG) - (12*v0.shift.steps))) <| aa (ab (!v1) (some true) (ab (!v2) (some true) (aa (BD (v0.shift.steps,((-21),21))) fun v3=>ab (!v3) (some true) (aa (BD (v0.shift.bG,((-36),36))) fun v4=>ab (!v4) (some true) (aa (BD (((7*v0.shift.bG) - (12*v0.shift.steps)),((-12),12))) fun v5=>some (!v5)))))) fun(v3:Bool)=>ab v3 (some false) (aa (jE v0.low) fun v4=>aa (jE v0.high) fun v5=>some (leI v4 v5))
noncomputable def H6:Sy.Callee:=⟨135,[.st 4],[.bool],BC⟩
theorem TS:aB Tryz.prog H6:=kk [ui,PA,uh] ⟨xQ,adB,xP,trivial⟩ Tryz.func135 (by kernel_rfl) (fun a=>by kernel_rfl)
noncomputable def Bu:Int→Option Bool:=fun(v0)=>aa (ab (leI (-7) v0) (some (leI v0 7)) (some false)) fun(v1:Bool)=>some v1
noncomputable def C5:Sy.Callee:=⟨136,[.int .i64],[.bool],Bu⟩
theorem Ld:aB Tryz.prog C5:=kk [] trivial Tryz.func136 (by kernel_rfl) (fun a=>by kernel_rfl)
noncomputable def Br:Interval→Option Bool:=fun(v0)=>aa (rQ (v0.steps,((-70),70))) fun v1=>aa (ab v1 (aa (rQ (v0.bG,((-120),120))) fun v2=>some v2) (some false)) fun(v2:Bool)=>some v2
noncomputable def HV:Sy.Callee:=⟨174,[.st 2],[.bool],Br⟩
theorem TH:aB Tryz.prog HV:=kk [C4] ⟨Lc,trivial⟩ Tryz.func174 (by kernel_rfl) (fun a=>by kernel_rfl)
noncomputable def yf:Interval→Option (Interval×Int):=fun(v0)=>aa (Br v0) fun v1=>ab (!v1) (some ((⟨0,0⟩:Interval),1)) (ar (az (j9 v0.steps)) <| ar (az (j9 v0.bG)) <| some ((⟨(j9 v0.steps),(j9 v0.bG)⟩:Interval),0))
noncomputable def HU:Sy.Callee:=⟨137,[.st 2],[.st 2,.int .i64],yf⟩
theorem TG:aB Tryz.prog HU:=kk [HV] ⟨TH,trivial⟩ Tryz.func137 (by kernel_rfl) (fun a=>by kernel_rfl)
noncomputable def F0:(Int×Interval)→Option (Int×(Interval×Int)):=fun(v0,v1)=>aa (Bt v1) fun v2=>aa (ab (!(ay v2.2 0)) (some true) (aa (Bu v0) fun v3=>some (!v3))) fun(v3:Bool)=>ab v3 (some (0,((⟨0,0⟩:Interval),1))) (ar (az (v0+v2.1)) <| aa (aU (fun v4:(Int×Int)=>ab (aA 7 v4.1) (ar (az (v4.1 - 12)) <| ar (az (v4.2+1)) <| some (.inl ((v4.1 - 12),(v4.2+1)))) (some (.inr (v4.1,v4.2)))) ((v0+v2.1),v1.steps)) fun(v4:(Int×Int))=>aa (aU (fun v5:(Int×Int)=>ab (aA v5.1 (-7)) (ar (az (v5.1+12)) <| ar (az (v5.2 - 1)) <| some (.inl ((v5.1+12),(v5.2 - 1)))) (some (.inr (v5.1,v5.2)))) (v4.1,v4.2)) fun(v5:(Int×Int))=>some (v5.1,((⟨v5.2,v1.bG⟩:Interval),0)))
noncomputable def Pf:Sy.Callee:=⟨196,[.int .i64,.st 2],[.int .i64,.st 2,.int .i64],F0⟩
theorem adi:aB Tryz.prog Pf:=kk [HX,C5] ⟨TK,Ld,trivial⟩ Tryz.func196 (by kernel_rfl) (fun a=>by kernel_rfl)
noncomputable def BE:(Part×Int)→Option (Int×Interval):=fun(v0,v1)=>aa (yf v0.shift) fun v2=>aa (F0 (v1,v2.1)) fun v3=>some (v3.1,v3.2.1)
noncomputable def H7:Sy.Callee:=⟨171,[.st 4,.int .i64],[.int .i64,.st 2],BE⟩
theorem TT:aB Tryz.prog H7:=kk [HU,Pf] ⟨TG,adi,trivial⟩ Tryz.func171 (by kernel_rfl) (fun a=>by kernel_rfl)
noncomputable def Gb:(Part×Int)→Option (Int×Int):=fun(v0,v1)=>aa (BC v0) fun v2=>aa (ab (!v2) (some true) (aa (Bu v1) fun v3=>some (!v3))) fun(v3:Bool)=>ab v3 (some (0,1)) (aa (BE (v0,v1)) fun v4=>some (v4.1,0))
noncomputable def Py:Sy.Callee:=⟨131,[.st 4,.int .i64],[.int .i64,.int .i64],Gb⟩
theorem adz:aB Tryz.prog Py:=kk [H6,C5,H7] ⟨TS,Ld,TT,trivial⟩ Tryz.func131 (by kernel_rfl) (fun a=>by kernel_rfl)
noncomputable def Gf:(Part×aD)→Option br:=fun(v0,v1)=>aa (Gb (v0,v1.key)) fun v2=>some (⟨v1.id,v2.1,v1.length,([]:List Written)⟩:br)
noncomputable def PF:Sy.Callee:=⟨81,[.st 4,.st 1],[.st 8],Gf⟩
theorem adF:aB Tryz.prog PF:=kk [Py] ⟨adz,trivial⟩ Tryz.func81 (by kernel_rfl) (fun a=>by kernel_rfl)
noncomputable def BI:(br×br)→Option Bool:=fun(v0,v1)=>aa (ab (ay v0.aZ v1.aZ) (ab (ay v0.key v1.key) (some (HE v0.length v1.length)) (some false)) (some false)) fun(v2:Bool)=>some v2
noncomputable def Ib:Sy.Callee:=⟨79,[.st 8,.st 8],[.bool],BI⟩
theorem TY:aB Tryz.prog Ib:=kk [] trivial Tryz.func79 (by kernel_rfl) (fun a=>by kernel_rfl)
noncomputable def BH:(Int×(Int×Int))→Option Bool:=fun(v0,v1,v2)=>aa (ab (leI v1 v0) (some (leI v0 v2)) (some false)) fun(v3:Bool)=>some v3
noncomputable def PJ:Sy.Callee:=⟨132,[.int .i64,.int .i64,.int .i64],[.bool],BH⟩
theorem adJ:aB Tryz.prog PJ:=kk [] trivial Tryz.func132 (by kernel_rfl) (fun a=>by kernel_rfl)
noncomputable def yl:(Written×Rat)→Option Bool:=fun(v0,v1)=>aa (BH (v0.id,(1,1000000))) fun v2=>aa (BH (v0.bm,(0,9))) fun v3=>aa (BH (v0.bH,(0,20))) fun v4=>aa (ni v0.start) fun v5=>aa (ni v0.length) fun v6=>aa (oc v0.aM) fun v7=>aa (ab v2 (ab v3 (ab v4 (ab v7 (ab (leI 0 v5) (ab (aA 0 v6) (ar (az (v5+v6)) <| aa (ni v1) fun v8=>some (leI (v5+v6) v8)) (some false)) (some false)) (some false)) (some false)) (some false)) (some false)) fun(v8:Bool)=>some v8
noncomputable def PE:Sy.Callee:=⟨82,[.st 7,.st 0],[.bool],yl⟩
theorem adE:aB Tryz.prog PE:=kk [PJ,wZ,ui] ⟨adJ,AP,xQ,trivial⟩ Tryz.func82 (by kernel_rfl) (fun a=>by kernel_rfl)
noncomputable def rR:((List Written)×Int)→Option Bool:=fun(v0,v1)=>cw (aU (fun v2:Int=>ab (aA v2 (v0.length:Int)) (aa (av v0 v2) fun v3=>ab (ay v3.id v1) (some (.inr (.inr true))) (ar (az (v2+1)) <| some (.inl (v2+1)))) (some (.inr (.inl ())))) 0) fun(v2:Unit)=>some false
noncomputable def H8:Sy.Callee:=⟨18,[.list (.st 7),.int .i64],[.bool],rR⟩
theorem TU:aB Tryz.prog H8:=kk [] trivial Tryz.func18 (by kernel_rfl) (fun a=>by kernel_rfl)
noncomputable def wg:(Written×Written)→Option Bool:=fun(v0,v1)=>aa (ni v0.start) fun v2=>aa (jE v0.aM) fun v3=>aa (ni v1.start) fun v4=>aa (jE v1.aM) fun v5=>cw (aU (fun v6:Int=>ab (aA v6 ((v2::(v0.bm::(v3::(v0.id::([]:List Int))))).length:Int)) (aa (av (v2::(v0.bm::(v3::(v0.id::([]:List Int))))) v6) fun v7=>aa (av (v4::(v1.bm::(v5::(v1.id::([]:List Int))))) v6) fun v8=>ab (!(ay v7 v8)) (aa (av (v2::(v0.bm::(v3::(v0.id::([]:List Int))))) v6) fun v9=>aa (av (v4::(v1.bm::(v5::(v1.id::([]:List Int))))) v6) fun v10=>some (.inr (.inr (aA v9 v10)))) (ar (az (v6+1)) <| some (.inl (v6+1)))) (some (.inr (.inl ())))) 0) fun(v6:Unit)=>some false
noncomputable def PB:Sy.Callee:=⟨83,[.st 7,.st 7],[.bool],wg⟩
theorem adC:aB Tryz.prog PB:=kk [wZ,uh] ⟨AP,xP,trivial⟩ Tryz.func83 (by kernel_rfl) (fun a=>by kernel_rfl)
noncomputable def BG:(Score×View)→Option Bool:=fun(v0,v1)=>aa (yj v0) fun v2=>aa (ab (!v2) (some true) (some (!(ay (v1.bg.length:Int) (v0.bars.length:Int))))) fun(v3:Bool)=>ab v3 (some false) (aa (qi (v0.parts,v1.part)) fun v4=>ab (aA v4 0) (some false) (cw (aU (fun v5:(Int×(List Written))=>ab (aA v5.1 (v0.bars.length:Int)) (cw (aa (av v1.bg v5.1) fun v6=>aa (MB v6) fun v7=>aa (av v0.parts v4) fun v8=>aa (av v0.bars v5.1) fun v9=>aa (Gf (v8,v9)) fun v10=>aa (BI (v7,v10)) fun v11=>ab (!v11) (some (.inr (.inr (.inr false)))) (aU (fun v12:(Int×(List Written))=>ab (aA v12.1 (v6.notes.length:Int)) (aa (av v6.notes v12.1) fun mH=>aa (yl (mH,v6.length)) fun ey=>aa (av v6.notes v12.1) fun mI=>aa (rR (v12.2,mI.id)) fun pj=>aa (ab (!ey) (some true) (ab pj (some true) (some (leI 20000 (v12.2.length:Int))))) fun(v17:Bool)=>ab v17 (some (.inr (.inr (.inr (.inr false))))) (cw (ab (aA 0 v12.1) (ar (az (v12.1 - 1)) <| aa (av v6.notes (v12.1 - 1)) fun fj=>aa (av v6.notes v12.1) fun cY=>aa (wg (fj,cY)) fun v20=>ab (!v20) (some (.inr (.inr (.inr (.inr (.inr false)))))) (some (.inl ()))) (some (.inl ()))) fun(fj:Unit)=>aa (av v6.notes v12.1) fun cY=>ar (decide ((List.append v12.2 (cY::([]:List Written))).length*80≤140737488355328∧(List.append v12.2 (cY::([]:List Written))).length≤9223372036854775807)) <| ar (az (v12.1+1)) <| some (.inl ((v12.1+1),(List.append v12.2 (cY::([]:List Written))))))) (some (.inr (.inl v12.2)))) (0,v5.2))) fun(v6:(List Written))=>ar (az (v5.1+1)) <| some (.inl ((v5.1+1),v6))) (some (.inr (.inl ())))) (0,([]:List Written))) fun(v5:Unit)=>some true))
noncomputable def Ia:Sy.Callee:=⟨38,[.st 6,.st 9],[.bool],BG⟩
theorem TW:aB Tryz.prog Ia:=kk [C8,uj,PI,PF,Ib,PE,H8,PB] ⟨Li,xR,adI,adF,TY,adE,TU,adC,trivial⟩ Tryz.func38 (by kernel_rfl) (fun a=>by kernel_rfl)
noncomputable def tG:Part→Option Int:=fun(v0)=>ab (ay v0.of 0) (some v0.id) (some v0.of)
noncomputable def C7:Sy.Callee:=⟨27,[.st 4],[.int .i64],tG⟩
theorem Lh:aB Tryz.prog C7:=kk [] trivial Tryz.func27 (by kernel_rfl) (fun a=>by kernel_rfl)
noncomputable def jc:((List ag)×Int)→Option Int:=fun(v0,v1)=>cw (aU (fun v2:Int=>ab (aA v2 (v0.length:Int)) (aa (av v0 v2) fun v3=>ab (ay v3.id v1) (some (.inr (.inr v2))) (ar (az (v2+1)) <| some (.inl (v2+1)))) (some (.inr (.inl ())))) 0) fun(v2:Unit)=>some (-1)
noncomputable def C6:Sy.Callee:=⟨25,[.list (.st 5),.int .i64],[.int .i64],jc⟩
theorem Lg:aB Tryz.prog C6:=kk [] trivial Tryz.func25 (by kernel_rfl) (fun a=>by kernel_rfl)
noncomputable def Mz:(Part×Int)→Option Interval:=fun(v0,v1)=>aa (BE (v0,v1)) fun v2=>some v2.2
noncomputable def Px:Sy.Callee:=⟨138,[.st 4,.int .i64],[.st 2],Mz⟩
theorem ady:aB Tryz.prog Px:=kk [H7] ⟨TT,trivial⟩ Tryz.func138 (by kernel_rfl) (fun a=>by kernel_rfl)
noncomputable def Mt:aE→Option Int:=fun(v0)=>ar (az (7*v0.au)) <| ar (az ((7*v0.au)+v0.step)) <| some ((7*v0.au)+v0.step)
noncomputable def Pc:Sy.Callee:=⟨175,[.st 3],[.int .i64],Mt⟩
theorem adf:aB Tryz.prog Pc:=kk [] trivial Tryz.func175 (by kernel_rfl) (fun a=>by kernel_rfl)
noncomputable def FZ:(aE×Interval)→Option (aE×Int):=fun(v0,v1)=>aa (oc v0) fun v2=>aa (Br v1) fun v3=>aa (ab (!v2) (some true) (some (!v3))) fun(v4:Bool)=>ab v4 (some ((⟨0,0,0⟩:aE),1)) (aa (Mt v0) fun v5=>ar (az (v5+v1.steps)) <| ar (!(ay 7 0)) <| ar (!(ay 7 0)) <| ar (az (Int.tdiv (v5+v1.steps) 7)) <| aa (ab (aA (Int.tmod (v5+v1.steps) 7) 0) (ar (az ((Int.tmod (v5+v1.steps) 7)+7)) <| ar (az ((Int.tdiv (v5+v1.steps) 7) - 1)) <| some (((Int.tmod (v5+v1.steps) 7)+7),((Int.tdiv (v5+v1.steps) 7) - 1))) (some ((Int.tmod (v5+v1.steps) 7),(Int.tdiv (v5+v1.steps) 7)))) fun(v6:(Int×Int))=>aa (jE v0) fun v7=>ar (az (v7+v1.bG)) <| aa (jE (⟨v6.1,0,v6.2⟩:aE)) fun v8=>ar (az ((v7+v1.bG) - v8)) <| aa (oc (⟨v6.1,((v7+v1.bG) - v8),v6.2⟩:aE)) fun v9=>ab (!v9) (some ((⟨0,0,0⟩:aE),3)) (some ((⟨v6.1,((v7+v1.bG) - v8),v6.2⟩:aE),0)))
noncomputable def Pb:Sy.Callee:=⟨139,[.st 3,.st 2],[.st 3,.int .i64],FZ⟩
theorem ade:aB Tryz.prog Pb:=kk [ui,HV,Pc,uh] ⟨xQ,TH,adf,xP,trivial⟩ Tryz.func139 (by kernel_rfl) (fun a=>by kernel_rfl)
noncomputable def Gc:(Part×(Int×aE))→Option (aE×Int):=fun(v0,v1,v2)=>aa (BC v0) fun v3=>aa (oc v2) fun v4=>aa (ab (!v3) (some true) (aa (Bu v1) fun v5=>ab (!v5) (some true) (some (!v4)))) fun(v5:Bool)=>ab v5 (some ((⟨0,0,0⟩:aE),1)) (aa (Mz (v0,v1)) fun v6=>aa (yf v6) fun v7=>aa (FZ (v2,v7.1)) fun v8=>some (v8.1,v8.2))
noncomputable def Pz:Sy.Callee:=⟨84,[.st 4,.int .i64,.st 3],[.st 3,.int .i64],Gc⟩
theorem adA:aB Tryz.prog Pz:=kk [H6,ui,C5,Px,HU,Pb] ⟨TS,xQ,Ld,ady,TG,ade,trivial⟩ Tryz.func84 (by kernel_rfl) (fun a=>by kernel_rfl)
noncomputable def Gi:(Score×(Part×(Int×Written)))→Option (ag×Int):=fun(v0,v1,v2,v3)=>aa (tG v1) fun v4=>aa (av v0.bars v2) fun v5=>aa (jc (v0.notes,v3.id)) fun v6=>aa (ab (leI 0 v6) (aa (av v0.notes v6) fun v7=>some (!(ay v7.part v4))) (some false)) fun(v7:Bool)=>ab v7 (some ((⟨v3.id,v4,v5.id,v3.bm,v3.bH,v3.start,v3.length,(⟨0,0,0⟩:aE)⟩:ag),5)) (aa (av v0.bars v2) fun v8=>aa (Gc (v1,(v8.key,v3.aM))) fun v9=>ab (!(ay v9.2 0)) (some ((⟨v3.id,v4,v5.id,v3.bm,v3.bH,v3.start,v3.length,(⟨0,0,0⟩:aE)⟩:ag),20)) (ar (az (v9.1.au - v1.au)) <| aa (aa (Bs (⟨v9.1.step,v9.1.alter,(v9.1.au - v1.au)⟩:aE)) fun v10=>ab (!v10) (some true) (aa (qi (v0.parts,v4)) fun v11=>aa (av v0.parts v11) fun v12=>aa (yi (v12,(⟨v9.1.step,v9.1.alter,(v9.1.au - v1.au)⟩:aE))) fun mH=>some (!mH))) fun(v10:Bool)=>ab v10 (some ((⟨v3.id,v4,v5.id,v3.bm,v3.bH,v3.start,v3.length,(⟨v9.1.step,v9.1.alter,(v9.1.au - v1.au)⟩:aE)⟩:ag),20)) (some ((⟨v3.id,v4,v5.id,v3.bm,v3.bH,v3.start,v3.length,(⟨v9.1.step,v9.1.alter,(v9.1.au - v1.au)⟩:aE)⟩:ag),0))))
noncomputable def PN:Sy.Callee:=⟨39,[.st 6,.st 4,.int .i64,.st 7],[.st 5,.int .i64],Gi⟩
theorem adN:aB Tryz.prog PN:=kk [C7,C6,Pz,HW,uj,H4] ⟨Lh,Lg,adA,TJ,xR,TQ,trivial⟩ Tryz.func39 (by kernel_rfl) (fun a=>by kernel_rfl)
noncomputable def F6:((List aD)×((List ag)×ag))→Option (List ag):=fun(v0,v1,v2)=>aa (aU (fun v3:Int=>aa (ab (aA 0 v3) (ar (az (v3 - 1)) <| aa (av v1 (v3 - 1)) fun v4=>aa (By (v0,(v2,v4))) fun v5=>some v5) (some false)) fun(v4:Bool)=>ab v4 (ar (az (v3 - 1)) <| some (.inl (v3 - 1))) (some (.inr v3))) (v1.length:Int)) fun(v3:Int)=>ar ((leI 0 v3)&&(leI v3 (v1.length:Int))) <| ar (decide ((List.take (Int.toNat v3) v1).length*96≤140737488355328∧(List.take (Int.toNat v3) v1).length≤9223372036854775807)) <| ar (decide ((List.append (List.take (Int.toNat v3) v1) (v2::([]:List ag))).length*96≤140737488355328∧(List.append (List.take (Int.toNat v3) v1) (v2::([]:List ag))).length≤9223372036854775807)) <| ar ((leI 0 v3)&&(leI v3 (v1.length:Int))) <| ar (decide ((List.append (List.append (List.take (Int.toNat v3) v1) (v2::([]:List ag))) (List.drop (Int.toNat v3) v1)).length*96≤140737488355328∧(List.append (List.append (List.take (Int.toNat v3) v1) (v2::([]:List ag))) (List.drop (Int.toNat v3) v1)).length≤9223372036854775807)) <| some (List.append (List.append (List.take (Int.toNat v3) v1) (v2::([]:List ag))) (List.drop (Int.toNat v3) v1))
noncomputable def Pp:Sy.Callee:=⟨141,[.list (.st 1),.list (.st 5),.st 5],[.list (.st 5)],F6⟩
theorem adq:aB Tryz.prog Pp:=kk [H0] ⟨TN,trivial⟩ Tryz.func141 (by kernel_rfl) (fun a=>by kernel_rfl)
noncomputable def F5:((List aD)×(List ag))→Option (List ag):=fun(v0,v1)=>aa (aU (fun v2:((List ag)×Int)=>ab (aA v2.2 (v1.length:Int)) (aa (av v1 v2.2) fun v3=>aa (F6 (v0,(v2.1,v3))) fun v4=>ar (az (v2.2+1)) <| some (.inl (v4,(v2.2+1)))) (some (.inr v2.1))) (([]:List ag),0)) fun(v2:(List ag))=>some v2
noncomputable def Pm:Sy.Callee:=⟨87,[.list (.st 1),.list (.st 5)],[.list (.st 5)],F5⟩
theorem adn:aB Tryz.prog Pm:=kk [Pp] ⟨adq,trivial⟩ Tryz.func87 (by kernel_rfl) (fun a=>by kernel_rfl)
noncomputable def Ga:(Score×(Int×(List ag)))→Option (Score×Int):=fun(v0,v1,v2)=>aa (yj v0) fun v3=>aa (ab (!v3) (some true) (aa (nj (v1,(1,1000000))) fun v4=>some (!v4))) fun(v4:Bool)=>ab v4 (some ((⟨0,([]:List aD),([]:List Part),([]:List ag)⟩:Score),1)) (aa (Bz (v0.bars,v2)) fun v5=>ab (!v5) (some ((⟨0,([]:List aD),([]:List Part),([]:List ag)⟩:Score),1)) (aa (yk (v0.parts,v2)) fun v6=>ab (!(ay v6 0)) (some ((⟨0,([]:List aD),([]:List Part),([]:List ag)⟩:Score),v6)) (aa (F5 (v0.bars,v2)) fun v7=>some ((⟨v1,v0.bars,v0.parts,v7⟩:Score),0))))
noncomputable def Pw:Sy.Callee:=⟨40,[.st 6,.int .i64,.list (.st 5)],[.st 6,.int .i64],Ga⟩
theorem adx:aB Tryz.prog Pw:=kk [C8,w9,H2,H5,Pm] ⟨Li,AQ,TO,TR,adn,trivial⟩ Tryz.func40 (by kernel_rfl) (fun a=>by kernel_rfl)
noncomputable def BJ:(Score×(Int×View))→Option (Score×(Int×Int)):=fun(v0,v1,v2)=>aa (ab (aA v1 1) (some true) (ab (aA 1000000 v1) (some true) (aa (BG (v0,v2)) fun v3=>some (!v3)))) fun(v3:Bool)=>ab v3 (some ((⟨0,([]:List aD),([]:List Part),([]:List ag)⟩:Score),(0,1))) (aa (qi (v0.parts,v2.part)) fun v4=>aa (av v0.parts v4) fun v5=>aa (aU (fun v6:(Int×(List ag))=>ab (aA v6.1 (v0.notes.length:Int)) (aa (aa (av v0.notes v6.1) fun v7=>aa (tG v5) fun v8=>ab (!(ay v7.part v8)) (aa (av v0.notes v6.1) fun v9=>ar (decide ((List.append v6.2 (v9::([]:List ag))).length*96≤140737488355328∧(List.append v6.2 (v9::([]:List ag))).length≤9223372036854775807)) <| some (List.append v6.2 (v9::([]:List ag)))) (some v6.2)) fun(v7:(List ag))=>ar (az (v6.1+1)) <| some (.inl ((v6.1+1),v7))) (some (.inr v6.2))) (0,([]:List ag))) fun(v6:(List ag))=>cw (aU (fun v7:(Int×(List ag))=>ab (aA v7.1 (v2.bg.length:Int)) (cw (aU (fun v8:(Int×(List ag))=>aa (av v2.bg v7.1) fun v9=>ab (aA v8.1 (v9.notes.length:Int)) (aa (av v2.bg v7.1) fun v10=>aa (av v10.notes v8.1) fun v11=>aa (Gi (v0,(v5,(v7.1,v11)))) fun v12=>ab (!(ay v12.2 0)) (some (.inr (.inr (.inr (.inr ((⟨0,([]:List aD),([]:List Part),([]:List ag)⟩:Score),(v11.id,v12.2))))))) (ar (decide ((List.append v8.2 (v12.1::([]:List ag))).length*96≤140737488355328∧(List.append v8.2 (v12.1::([]:List ag))).length≤9223372036854775807)) <| ar (az (v8.1+1)) <| some (.inl ((v8.1+1),(List.append v8.2 (v12.1::([]:List ag))))))) (some (.inr (.inl v8.2)))) (0,v7.2)) fun(v8:(List ag))=>ar (az (v7.1+1)) <| some (.inl ((v7.1+1),v8))) (some (.inr (.inl v7.2)))) (0,v6)) fun(v7:(List ag))=>ab (aA 20000 (v7.length:Int)) (some ((⟨0,([]:List aD),([]:List Part),([]:List ag)⟩:Score),(0,2))) (aa (Ga (v0,(v1,v7))) fun v8=>ab (!(ay v8.2 0)) (some ((⟨0,([]:List aD),([]:List Part),([]:List ag)⟩:Score),(0,v8.2))) (some (v8.1,(0,0)))))
noncomputable def Ic:Sy.Callee:=⟨12,[.st 6,.int .i64,.st 9],[.st 6,.int .i64,.int .i64],BJ⟩
theorem TZ:aB Tryz.prog Ic:=kk [Ia,uj,C7,PN,Pw] ⟨TW,xR,Lh,adN,adx,trivial⟩ Tryz.func12 (by kernel_rfl) (fun a=>by kernel_rfl)
noncomputable def Mx:((List aD)×(List aD))→Option Bool:=fun(v0,v1)=>ab (!(ay (v0.length:Int) (v1.length:Int))) (some false) (cw (aU (fun v2:Int=>ab (aA v2 (v0.length:Int)) (aa (av v0 v2) fun v3=>aa (av v1 v2) fun v4=>ab (!(Ow v3 v4)) (some (.inr (.inr false))) (ar (az (v2+1)) <| some (.inl (v2+1)))) (some (.inr (.inl ())))) 0) fun(v2:Unit)=>some true)
noncomputable def Pt:Sy.Callee:=⟨41,[.list (.st 1),.list (.st 1)],[.bool],Mx⟩
theorem adu:aB Tryz.prog Pt:=kk [] trivial Tryz.func41 (by kernel_rfl) (fun a=>by kernel_rfl)
noncomputable def My:((List Part)×(List Part))→Option Bool:=fun(v0,v1)=>ab (!(ay (v0.length:Int) (v1.length:Int))) (some false) (cw (aU (fun v2:Int=>ab (aA v2 (v0.length:Int)) (aa (av v0 v2) fun v3=>aa (av v1 v2) fun v4=>ab (!(Oz v3 v4)) (some (.inr (.inr false))) (ar (az (v2+1)) <| some (.inl (v2+1)))) (some (.inr (.inl ())))) 0) fun(v2:Unit)=>some true)
noncomputable def Pu:Sy.Callee:=⟨42,[.list (.st 4),.list (.st 4)],[.bool],My⟩
theorem adv:aB Tryz.prog Pu:=kk [] trivial Tryz.func42 (by kernel_rfl) (fun a=>by kernel_rfl)
noncomputable def Mw:((List ag)×(List ag))→Option Bool:=fun(v0,v1)=>ab (!(ay (v0.length:Int) (v1.length:Int))) (some false) (cw (aU (fun v2:Int=>ab (aA v2 (v0.length:Int)) (aa (av v0 v2) fun v3=>aa (av v1 v2) fun v4=>ab (!(iR v3 v4)) (some (.inr (.inr false))) (ar (az (v2+1)) <| some (.inl (v2+1)))) (some (.inr (.inl ())))) 0) fun(v2:Unit)=>some true)
noncomputable def Pk:Sy.Callee:=⟨43,[.list (.st 5),.list (.st 5)],[.bool],Mw⟩
theorem adm:aB Tryz.prog Pk:=kk [] trivial Tryz.func43 (by kernel_rfl) (fun a=>by kernel_rfl)
noncomputable def oY:(Score×Score)→Option Bool:=fun(v0,v1)=>aa (Mx (v0.bars,v1.bars)) fun v2=>aa (My (v0.parts,v1.parts)) fun v3=>aa (Mw (v0.notes,v1.notes)) fun v4=>aa (ab (ay v0.version v1.version) (ab v2 (ab v3 (some v4) (some false)) (some false)) (some false)) fun(v5:Bool)=>some v5
noncomputable def uk:Sy.Callee:=⟨13,[.st 6,.st 6],[.bool],oY⟩
theorem xS:aB Tryz.prog uk:=kk [Pt,Pu,Pk] ⟨adu,adv,adm,trivial⟩ Tryz.func13 (by kernel_rfl) (fun a=>by kernel_rfl)
noncomputable def Bj:(List ag)→Option (List (Int×ag)):=fun(v0)=>aa (aU (fun v1:(Int×(List (Int×ag)))=>ab (aA v1.1 (v0.length:Int)) (aa (av v0 v1.1) fun v2=>ar (az (v1.1+1)) <| some (.inl ((v1.1+1),(bz v1.2 v2.id v2)))) (some (.inr v1.2))) (0,([]:List (Int×ag)))) fun(v1:(List (Int×ag)))=>some v1
noncomputable def OV:Sy.Callee:=⟨44,[.list (.st 5)],[.map (.int .i64) (.st 5)],Bj⟩
theorem acV:aB Tryz.prog OV:=kk [] trivial Tryz.func44 (by kernel_rfl) (fun a=>by kernel_rfl)
noncomputable def FT:(List (Int×ag))→Option (List (Int×ag)):=fun(v0)=>some v0
noncomputable def O2:Sy.Callee:=⟨46,[.map (.int .i64) (.st 5)],[.aL 90 (.box (.map (.int .i64) (.st 5)))],FT⟩
theorem ac2:aB Tryz.prog O2:=kk [] trivial Tryz.func46 (by kernel_rfl) (fun a=>by kernel_rfl)
noncomputable def ym:((List ag)×((List ag)×Int))→Option Int:=fun(v0,v1,v2)=>aa (aU (fun v3:(Int×Int)=>ab (aA v3.2 (v0.length:Int)) (aa (aa (aa (av v0 v3.2) fun v4=>ab (aA v2 v4.id) (ab (ay v3.1 0) (some true) (aa (av v0 v3.2) fun v5=>some (aA v5.id v3.1))) (some false)) fun(v4:Bool)=>ab v4 (aa (av v0 v3.2) fun v5=>some v5.id) (some v3.1)) fun(v4:Int)=>ar (az (v3.2+1)) <| some (.inl (v4,(v3.2+1)))) (some (.inr v3.1))) (0,0)) fun(v3:Int)=>aa (aU (fun v4:(Int×Int)=>ab (aA v4.2 (v1.length:Int)) (aa (aa (aa (av v1 v4.2) fun v5=>ab (aA v2 v5.id) (ab (ay v4.1 0) (some true) (aa (av v1 v4.2) fun v6=>some (aA v6.id v4.1))) (some false)) fun(v5:Bool)=>ab v5 (aa (av v1 v4.2) fun v6=>some v6.id) (some v4.1)) fun(v5:Int)=>ar (az (v4.2+1)) <| some (.inl (v5,(v4.2+1)))) (some (.inr v4.1))) (v3,0)) fun(v4:Int)=>some v4
noncomputable def PM:Sy.Callee:=⟨47,[.list (.st 5),.list (.st 5),.int .i64],[.int .i64],ym⟩
theorem adM:aB Tryz.prog PM:=kk [] trivial Tryz.func47 (by kernel_rfl) (fun a=>by kernel_rfl)
noncomputable def Gh:(Score×View)→Option ((List bj)×Int):=fun(v0,v1)=>aa (BJ (v0,(1,v1))) fun v2=>ab (!(ay v2.2.2 0)) (some (([]:List bj),v2.2.2)) (aa (aa (ym (v0.notes,(v2.1.notes,0))) fun v3=>aU (fun v4:(Int×((List bj)×(List bj)))=>ab (aA 0 v4.1) (aa (aa (jc (v0.notes,v4.1)) fun v5=>aa (jc (v2.1.notes,v4.1)) fun v6=>ab (aA v6 0) (ar (decide ((List.append v4.2.1 ((⟨2,0,0,(⟨v4.1,0,0,0,0,(⟨0,0⟩:Rat),(⟨0,0⟩:Rat),(⟨0,0,0⟩:aE)⟩:ag)⟩:bj)::([]:List bj))).length*120≤140737488355328∧(List.append v4.2.1 ((⟨2,0,0,(⟨v4.1,0,0,0,0,(⟨0,0⟩:Rat),(⟨0,0⟩:Rat),(⟨0,0,0⟩:aE)⟩:ag)⟩:bj)::([]:List bj))).length≤9223372036854775807)) <| some ((List.append v4.2.1 ((⟨2,0,0,(⟨v4.1,0,0,0,0,(⟨0,0⟩:Rat),(⟨0,0⟩:Rat),(⟨0,0,0⟩:aE)⟩:ag)⟩:bj)::([]:List bj))),v4.2.2)) (aa (ab (aA v5 0) (some true) (aa (av v0.notes v5) fun v7=>aa (av v2.1.notes v6) fun v8=>some (!(iR v7 v8)))) fun(v7:Bool)=>ab v7 (aa (av v2.1.notes v6) fun v8=>ar (decide ((List.append v4.2.2 ((⟨1,0,0,v8⟩:bj)::([]:List bj))).length*120≤140737488355328∧(List.append v4.2.2 ((⟨1,0,0,v8⟩:bj)::([]:List bj))).length≤9223372036854775807)) <| some (v4.2.1,(List.append v4.2.2 ((⟨1,0,0,v8⟩:bj)::([]:List bj))))) (some (v4.2.1,v4.2.2)))) fun(v5:((List bj)×(List bj)))=>aa (ym (v0.notes,(v2.1.notes,v4.1))) fun v6=>some (.inl (v6,(v5.1,v5.2)))) (some (.inr (v4.2.1,v4.2.2)))) (v3,(([]:List bj),([]:List bj)))) fun(v3:((List bj)×(List bj)))=>ar (decide ((List.append v3.1 v3.2).length*120≤140737488355328∧(List.append v3.1 v3.2).length≤9223372036854775807)) <| aa (aU (fun v4:(Int×(List bj))=>ab (aA v4.1 (v4.2.length:Int)) (ar (az (v4.1+1)) <| ar ((leI 0 v4.1)&&(aA v4.1 (v4.2.length:Int))) <| aa (av v4.2 v4.1) fun v5=>ar ((leI 0 v4.1)&&(aA v4.1 ((List.set v4.2 (Int.toNat v4.1) (⟨v5.kind,(v4.1+1),v5.mc,v5.note⟩:bj)).length:Int))) <| aa (av (List.set v4.2 (Int.toNat v4.1) (⟨v5.kind,(v4.1+1),v5.mc,v5.note⟩:bj)) v4.1) fun v6=>ar (az (v4.1+1)) <| some (.inl ((v4.1+1),(List.set (List.set v4.2 (Int.toNat v4.1) (⟨v5.kind,(v4.1+1),v5.mc,v5.note⟩:bj)) (Int.toNat v4.1) (⟨v6.kind,v6.clock,1,v6.note⟩:bj))))) (some (.inr v4.2))) (0,(List.append v3.1 v3.2))) fun(v4:(List bj))=>some (v4,0))
noncomputable def PK:Sy.Callee:=⟨15,[.st 6,.st 9],[.list (.st 10),.int .i64],Gh⟩
theorem adK:aB Tryz.prog PK:=kk [Ic,PM,C6] ⟨TZ,adM,Lg,trivial⟩ Tryz.func15 (by kernel_rfl) (fun a=>by kernel_rfl)
noncomputable def MC:((List bj)×(List bj))→Option Bool:=fun(v0,v1)=>ab (!(ay (v0.length:Int) (v1.length:Int))) (some false) (cw (aU (fun v2:Int=>ab (aA v2 (v0.length:Int)) (aa (av v0 v2) fun v3=>aa (av v1 v2) fun v4=>ab (!(CS v3 v4)) (some (.inr (.inr false))) (ar (az (v2+1)) <| some (.inl (v2+1)))) (some (.inr (.inl ())))) 0) fun(v2:Unit)=>some true)
noncomputable def PL:Sy.Callee:=⟨16,[.list (.st 10),.list (.st 10)],[.bool],MC⟩
theorem adL:aB Tryz.prog PL:=kk [] trivial Tryz.func16 (by kernel_rfl) (fun a=>by kernel_rfl)
noncomputable def qh:(Score×View)→Option Bool:=fun(v0,v1)=>aa (aa (Bi (v0,v1)) fun v2=>ab v2 (aa (BG (v0,v1)) fun v3=>some v3) (some false)) fun(v2:Bool)=>some v2
noncomputable def y7:Sy.Callee:=⟨17,[.st 6,.st 9],[.bool],qh⟩
theorem EL:aB Tryz.prog y7:=kk [HJ,Ia] ⟨Tt,TW,trivial⟩ Tryz.func17 (by kernel_rfl) (fun a=>by kernel_rfl)
noncomputable def yd:View→Option (List Written):=fun(v0)=>aa (aU (fun v1:(Int×(List Written))=>ab (aA v1.1 (v0.bg.length:Int)) (aa (av v0.bg v1.1) fun v2=>ar (decide ((List.append v1.2 v2.notes).length*80≤140737488355328∧(List.append v1.2 v2.notes).length≤9223372036854775807)) <| ar (az (v1.1+1)) <| some (.inl ((v1.1+1),(List.append v1.2 v2.notes)))) (some (.inr v1.2))) (0,([]:List Written))) fun(v1:(List Written))=>some v1
noncomputable def OT:Sy.Callee:=⟨19,[.st 9],[.list (.st 7)],yd⟩
theorem acT:aB Tryz.prog OT:=kk [] trivial Tryz.func19 (by kernel_rfl) (fun a=>by kernel_rfl)
noncomputable def Gp:(Score×Part)→Option (Score×(Int×Part)):=fun(v0,v1)=>aa (ab (ay v1.of 0) (some v1.id) (some v1.of)) fun(v2:Int)=>some (v0,(v2,v1))
noncomputable def PX:Sy.Callee:=⟨67,[.st 6,.st 4],[.aL 120 (.aI (.box (.st 6)) (.aI (.box (.int .i64)) (.box (.st 4))))],Gp⟩
theorem adX:aB Tryz.prog PX:=kk [] trivial Tryz.func67 (by kernel_rfl) (fun a=>by kernel_rfl)
noncomputable def FL:(Part×(Int×aE))→Option (aE×Int):=fun(v0,v1,v2)=>aa (aa (aa (vX v0) fun v3=>ab (!v3) (some (false,(0,0))) (aa (rP v0.shift) fun v4=>aa (yc (v1,v4.1)) fun v5=>aa (ab (!(ay v4.2 0)) (some true) (some (!(ay v5.2.2 0)))) fun(v6:Bool)=>ab v6 (some (false,(0,0))) (some (true,(v5.2.1.steps,v5.2.1.bG))))) fun(v3:(Bool×(Int×Int)))=>ab (!v3.1) (some (true,(v3.2.1,v3.2.2))) (aa (ky v2) fun v4=>some ((!v4),(v3.2.1,v3.2.2)))) fun(v3:(Bool×(Int×Int)))=>ab v3.1 (some ((⟨0,0,0⟩:aE),1)) (aa (Bq (v2,(⟨v3.2.1,v3.2.2⟩:Interval))) fun v4=>some (v4.1,v4.2))
noncomputable def OP:Sy.Callee:=⟨145,[.st 4,.int .i64,.st 3],[.st 3,.int .i64],FL⟩
theorem acJ:aB Tryz.prog OP:=kk [y6,za,C2,px,HQ] ⟨EK,EO,La,ry,TB,trivial⟩ Tryz.func145 (by kernel_rfl) (fun a=>by kernel_rfl)
noncomputable def BR:(Reader×(aD×ag))→Option Written:=fun(v0,v1,v2)=>aa (FL (v0.part,(v1.key,v2.aM))) fun v3=>some (⟨v2.id,v2.bm,v2.bH,v2.start,v2.length,v3.1⟩:Written)
noncomputable def Qj:Sy.Callee:=⟨94,[.st 12,.st 1,.st 5],[.st 7],BR⟩
theorem aej:aB Tryz.prog Qj:=kk [OP] ⟨acJ,trivial⟩ Tryz.func94 (by kernel_rfl) (fun a=>by kernel_rfl)
noncomputable def MA:((List Written)×(List Written))→Option Bool:=fun(v0,v1)=>ab (!(ay (v0.length:Int) (v1.length:Int))) (some false) (cw (aU (fun v2:Int=>ab (aA v2 (v0.length:Int)) (aa (av v0 v2) fun v3=>aa (av v1 v2) fun v4=>ab (!(OB v3 v4)) (some (.inr (.inr false))) (ar (az (v2+1)) <| some (.inl (v2+1)))) (some (.inr (.inl ())))) 0) fun(v2:Unit)=>some true)
noncomputable def PH:Sy.Callee:=⟨95,[.list (.st 7),.list (.st 7)],[.bool],MA⟩
theorem adH:aB Tryz.prog PH:=kk [] trivial Tryz.func95 (by kernel_rfl) (fun a=>by kernel_rfl)
noncomputable def Gg:((List br)×(List br))→Option Bool:=fun(v0,v1)=>ab (!(ay (v0.length:Int) (v1.length:Int))) (some false) (cw (aU (fun v2:Int=>ab (aA v2 (v0.length:Int)) (aa (av v0 v2) fun v3=>aa (av v1 v2) fun v4=>aa (BI (v3,v4)) fun v5=>aa (av v0 v2) fun v6=>aa (av v1 v2) fun v7=>aa (MA (v6.notes,v7.notes)) fun v8=>aa (ab (!v5) (some true) (some (!v8))) fun(v9:Bool)=>ab v9 (some (.inr (.inr false))) (ar (az (v2+1)) <| some (.inl (v2+1)))) (some (.inr (.inl ())))) 0) fun(v2:Unit)=>some true)
noncomputable def PG:Sy.Callee:=⟨50,[.list (.st 8),.list (.st 8)],[.bool],Gg⟩
theorem adG:aB Tryz.prog PG:=kk [Ib,PH] ⟨TY,adH,trivial⟩ Tryz.func50 (by kernel_rfl) (fun a=>by kernel_rfl)
noncomputable def BF:(View×View)→Option Bool:=fun(v0,v1)=>aa (Gg (v0.bg,v1.bg)) fun v2=>aa (ab (ay v0.part v1.part) (some v2) (some false)) fun(v3:Bool)=>some v3
noncomputable def H9:Sy.Callee:=⟨21,[.st 9,.st 9],[.bool],BF⟩
theorem TV:aB Tryz.prog H9:=kk [PG] ⟨adG,trivial⟩ Tryz.func21 (by kernel_rfl) (fun a=>by kernel_rfl)
noncomputable def FN:(Int×Int)→Option Rat:=fun(v0,v1)=>some (⟨v0,v1⟩:Rat)
noncomputable def HL:Sy.Callee:=⟨68,[.int .i64,.int .i64],[.st 0],FN⟩
theorem Tv:aB Tryz.prog HL:=kk [] trivial Tryz.func68 (by kernel_rfl) (fun a=>by kernel_rfl)
noncomputable def vZ:(Int×(Int×(Int×Int)))→Option ag:=fun(v0,v1,v2,v3)=>aa (FN (0,1)) fun v4=>aa (FN (1,1)) fun v5=>some (⟨v0,v1,1,0,0,v4,v5,(⟨v2,0,v3⟩:aE)⟩:ag)
noncomputable def HK:Sy.Callee:=⟨31,[.int .i64,.int .i64,.int .i64,.int .i64],[.st 5],vZ⟩
theorem Tu:aB Tryz.prog HK:=kk [HL] ⟨Tv,trivial⟩ Tryz.func31 (by kernel_rfl) (fun a=>by kernel_rfl)
noncomputable def FM:Unit→Option Score:=fun()=>aa (FN (4,1)) fun v0=>aa (vZ (5,(1,(4,4)))) fun v1=>aa (vZ (6,(2,(0,5)))) fun v2=>some (⟨1,((⟨1,v0,0⟩:aD)::([]:List aD)),((⟨1,0,0,0,1,(⟨0,0⟩:Interval),(⟨0,0,0⟩:aE),(⟨0,0,8⟩:aE)⟩:Part)::((⟨2,0,0,0,1,(⟨0,0⟩:Interval),(⟨0,0,0⟩:aE),(⟨0,0,8⟩:aE)⟩:Part)::((⟨3,0,1,(-1),1,(⟨(-1),(-2)⟩:Interval),(⟨0,0,0⟩:aE),(⟨0,0,8⟩:aE)⟩:Part)::([]:List Part)))),(v1::(v2::([]:List ag)))⟩:Score)
noncomputable def OU:Sy.Callee:=⟨30,[],[.st 6],FM⟩
theorem acU:aB Tryz.prog OU:=kk [HL,HK] ⟨Tv,Tu,trivial⟩ Tryz.func30 (by kernel_rfl) (fun a=>by kernel_rfl)
noncomputable def Mr:(ag×(ag×(List (Int×Int))))→Option Int:=fun(v0,v1,v2)=>aa (tD v0.start) fun v3=>aa (tD v1.start) fun v4=>aa (tE v0.aM) fun v5=>aa (tE v1.aM) fun v6=>ar (az ((bB v2 v0.aZ 0) - (bB v2 v1.aZ 0))) <| ar (az (v0.part - v1.part)) <| ar (az (v3.1 - v4.1)) <| ar (az (v0.bm - v1.bm)) <| ar (az (v5.1 - v6.1)) <| ar (az (v0.id - v1.id)) <| aa (Bg (((bB v2 v0.aZ 0) - (bB v2 v1.aZ 0))::((v0.part - v1.part)::((v3.1 - v4.1)::((v0.bm - v1.bm)::((v5.1 - v6.1)::((v0.id - v1.id)::([]:List Int)))))))) fun v7=>some v7
noncomputable def YW:Sy.Callee:=⟨156,[.st 5,.st 5,.box (.map (.int .i64) (.int .i64))],[.int .i64],Mr⟩
theorem ac9:aB Tryz.prog YW:=kk [HP,zb,HG] ⟨TA,EP,Tp,trivial⟩ Tryz.func156 (by kernel_rfl) (fun a=>by kernel_rfl)
end Go.Proofs.YtfhkmedbfiphbaaGreatDoor
namespace Go.Proofs
open Go.Shelf
def Tryz.Lm:Go.Shelf.Ren:=⟨fun | 7=>46 | 10=>90 | n=>n,fun | 23=>92 | 26=>3 | 3=>60 | 28=>97 | 0=>0 | 27=>96 | 33=>109 | 4=>4 | n=>n,fun | n=>n⟩
theorem Tryz.Ub:Go.Proofs.SlLaysZI.n7 Tryz.prog Tryz.Lm:={
 mixed:=by kernel_rfl
 f7:=⟨Tryz.f46.name,by decide,Tryz.func46.trans (congrArg some (by kernel_rfl))⟩
 f10:=⟨Tryz.f90.name,by decide,Tryz.func90.trans (congrArg some (by kernel_rfl))⟩
 t0:=Tryz.underlying0
 a0:=Tryz.isAgg0
 z0:=Tryz.sizeOf0
 v0:=Tryz.zeroValue0
 t4:=Tryz.underlying4
 a4:=Tryz.isAgg4
 z4:=Tryz.sizeOf4
 v4:=Tryz.zeroValue4
 t23:=Tryz.underlying92
 a23:=Tryz.isAgg92
 z23:=Tryz.sizeOf92
 v23:=Tryz.zeroValue92
 t26:=Tryz.underlying3
 a26:=Tryz.isAgg3
 z26:=Tryz.sizeOf3
 v26:=Tryz.zeroValue3
 t27:=Tryz.underlying96
 a27:=Tryz.isAgg96
 z27:=Tryz.sizeOf96
 v27:=Tryz.zeroValue96
 t28:=Tryz.underlying97
 a28:=Tryz.isAgg97
 z28:=Tryz.sizeOf97
 v28:=Tryz.zeroValue97
 t33:=Tryz.underlying109
 a33:=Tryz.isAgg109
 z33:=Tryz.sizeOf109
 v33:=Tryz.zeroValue109 }
def Tryz.Xb:Go.Shelf.Ren:=⟨fun | 6=>45 | 8=>88 | 9=>89 | 11=>142 | 13=>144 | 12=>143 | 23=>185 | 24=>186 | 14=>176 | 15=>177 | 16=>178 | 17=>179 | 18=>180 | 19=>181 | 20=>182 | 21=>183 | 22=>184 | 25=>197 | 26=>198 | 27=>199 | 28=>200 | 29=>201 | 30=>169 | 31=>214 | n=>n,fun | 26=>3 | 28=>97 | 24=>94 | 0=>0 | 3=>3 | 37=>185 | 48=>212 | 50=>214 | 4=>4 | 40=>205 | 39=>204 | 45=>121 | 5=>5 | 9=>9 | 51=>222 | 55=>226 | 57=>233 | 58=>196 | 33=>109 | n=>n,fun | n=>n⟩
theorem Tryz.aid:Go.Proofs.SlLaysZI.n6 Tryz.prog Tryz.Xb:={
 mixed:=by kernel_rfl
 f6:=⟨Tryz.f45.name,by decide,Tryz.func45.trans (congrArg some (by kernel_rfl))⟩
 f8:=⟨Tryz.f88.name,by decide,Tryz.func88.trans (congrArg some (by kernel_rfl))⟩
 f11:=⟨Tryz.f142.name,by decide,Tryz.func142.trans (congrArg some (by kernel_rfl))⟩
 t0:=Tryz.underlying0
 a0:=Tryz.isAgg0
 z0:=Tryz.sizeOf0
 v0:=Tryz.zeroValue0
 t24:=Tryz.underlying94
 a24:=Tryz.isAgg94
 z24:=Tryz.sizeOf94
 v24:=Tryz.zeroValue94
 t26:=Tryz.underlying3
 a26:=Tryz.isAgg3
 z26:=Tryz.sizeOf3
 v26:=Tryz.zeroValue3
 t28:=Tryz.underlying97
 a28:=Tryz.isAgg97
 z28:=Tryz.sizeOf97
 v28:=Tryz.zeroValue97
 i26:=by kernel_rfl }
def Tryz.ah8:Go.Shelf.Ren:=⟨fun | 5=>89 | 8=>144 | 7=>143 | 19=>185 | 20=>186 | 10=>176 | 11=>177 | 12=>178 | 13=>179 | 14=>180 | 15=>181 | 16=>182 | 17=>183 | 18=>184 | 30=>197 | 31=>198 | 32=>199 | 33=>200 | 34=>201 | 35=>169 | 40=>214 | n=>n,fun | 23=>94 | 25=>3 | 3=>3 | 32=>185 | 22=>94 | 0=>0 | 44=>212 | 46=>214 | 4=>4 | 36=>205 | 35=>204 | 41=>121 | 5=>5 | 9=>9 | 53=>222 | 57=>226 | 63=>233 | 64=>196 | n=>n,fun | n=>n⟩
theorem Tryz.sortInt:Go.Proofs.SlLaysM.n5 Tryz.prog Tryz.ah8:={
 mixed:=by kernel_rfl
 f5:=⟨Tryz.f89.name,by decide,Tryz.func89.trans (congrArg some (by kernel_rfl))⟩
 f7:=⟨Tryz.f143.name,by decide,Tryz.func143.trans (congrArg some (by kernel_rfl))⟩
 f8:=Tryz.func144.trans (congrArg some (by kernel_rfl))
 f10:=⟨Tryz.f176.name,by decide,Tryz.func176.trans (congrArg some (by kernel_rfl))⟩
 f11:=⟨Tryz.f177.name,by decide,Tryz.func177.trans (congrArg some (by kernel_rfl))⟩
 f12:=⟨Tryz.f178.name,by decide,Tryz.func178.trans (congrArg some (by kernel_rfl))⟩
 f13:=⟨Tryz.f179.name,by decide,Tryz.func179.trans (congrArg some (by kernel_rfl))⟩
 f14:=⟨Tryz.f180.name,by decide,Tryz.func180.trans (congrArg some (by kernel_rfl))⟩
 f15:=⟨Tryz.f181.name,by decide,Tryz.func181.trans (congrArg some (by kernel_rfl))⟩
 f16:=⟨Tryz.f182.name,by decide,Tryz.func182.trans (congrArg some (by kernel_rfl))⟩
 f17:=⟨Tryz.f183.name,by decide,Tryz.func183.trans (congrArg some (by kernel_rfl))⟩
 f18:=⟨Tryz.f184.name,by decide,Tryz.func184.trans (congrArg some (by kernel_rfl))⟩
 f19:=Tryz.func185.trans (congrArg some (by kernel_rfl))
 f20:=Tryz.func186.trans (congrArg some (by kernel_rfl))
 f30:=⟨Tryz.f197.name,by decide,Tryz.func197.trans (congrArg some (by kernel_rfl))⟩
 f31:=Tryz.func198.trans (congrArg some (by kernel_rfl))
 f32:=Tryz.func199.trans (congrArg some (by kernel_rfl))
 f33:=⟨Tryz.f200.name,by decide,Tryz.func200.trans (congrArg some (by kernel_rfl))⟩
 f34:=⟨Tryz.f201.name,by decide,Tryz.func201.trans (congrArg some (by kernel_rfl))⟩
 f35:=⟨Tryz.f169.name,by decide,Tryz.func169.trans (congrArg some (by kernel_rfl))⟩
 f40:=⟨Tryz.f214.name,by decide,Tryz.func214.trans (congrArg some (by kernel_rfl))⟩
 t0:=Tryz.underlying0
 a0:=Tryz.isAgg0
 z0:=Tryz.sizeOf0
 v0:=Tryz.zeroValue0
 t3:=Tryz.underlying3
 a3:=Tryz.isAgg3
 z3:=Tryz.sizeOf3
 v3:=Tryz.zeroValue3
 t4:=Tryz.underlying4
 a4:=Tryz.isAgg4
 z4:=Tryz.sizeOf4
 v4:=Tryz.zeroValue4
 t5:=Tryz.underlying5
 a5:=Tryz.isAgg5
 z5:=Tryz.sizeOf5
 v5:=Tryz.zeroValue5
 t9:=Tryz.underlying9
 a9:=Tryz.isAgg9
 z9:=Tryz.sizeOf9
 v9:=Tryz.zeroValue9
 t22:=Tryz.underlying94
 a22:=Tryz.isAgg94
 z22:=Tryz.sizeOf94
 v22:=Tryz.zeroValue94
 t23:=Tryz.underlying94
 a23:=Tryz.isAgg94
 z23:=Tryz.sizeOf94
 v23:=Tryz.zeroValue94
 t25:=Tryz.underlying3
 a25:=Tryz.isAgg3
 z25:=Tryz.sizeOf3
 v25:=Tryz.zeroValue3
 t32:=Tryz.underlying185
 a32:=Tryz.isAgg185
 z32:=Tryz.sizeOf185
 v32:=Tryz.zeroValue185
 t35:=Tryz.underlying204
 a35:=Tryz.isAgg204
 z35:=Tryz.sizeOf204
 v35:=Tryz.zeroValue204
 t36:=Tryz.underlying205
 a36:=Tryz.isAgg205
 z36:=Tryz.sizeOf205
 v36:=Tryz.zeroValue205
 t41:=Tryz.underlying121
 a41:=Tryz.isAgg121
 z41:=Tryz.sizeOf121
 v41:=Tryz.zeroValue121
 t44:=Tryz.underlying212
 a44:=Tryz.isAgg212
 z44:=Tryz.sizeOf212
 v44:=Tryz.zeroValue212
 t46:=Tryz.underlying214
 a46:=Tryz.isAgg214
 z46:=Tryz.sizeOf214
 v46:=Tryz.zeroValue214
 t53:=Tryz.underlying222
 a53:=Tryz.isAgg222
 z53:=Tryz.sizeOf222
 v53:=Tryz.zeroValue222
 t57:=Tryz.underlying226
 a57:=Tryz.isAgg226
 z57:=Tryz.sizeOf226
 v57:=Tryz.zeroValue226
 t63:=Tryz.underlying233
 a63:=Tryz.isAgg233
 z63:=Tryz.sizeOf233
 v63:=Tryz.zeroValue233
 t64:=Tryz.underlying196
 a64:=Tryz.isAgg196
 z64:=Tryz.sizeOf196
 v64:=Tryz.zeroValue196 }
end Go.Proofs
