import Derived.Test.YtjigeffmmcmlnaaGreatDoorX5
import Derived.Shelf.GgSortFunc.InsertionK
import Derived.Shelf.SlSortCmp.InsertionK
import Derived.Sort.AssemblyPlain
set_option linter.all false
set_option linter.unnecessarySimpa false
set_option linter.deprecated false
set_option linter.unusedVariables false
set_option linter.unusedSimpArgs false
set_option linter.unusedSectionVars false
namespace Go.an
open Go Go.RowKit au Go.Proofs Go.Sort
variable [ck]
theorem avf (w:World) (b:Nat) (f:Array Value→Array Value) (cur:Array Value) (e:TypeId) (fr:Nat×Nat) (h:w.heap[b]?=some (.cells cur e fr)):mapBlock w b f=w.setRow b (f cur):=by
 unfold mapBlock World.setRow
 congr 1
 apply Array.ext_getElem?
 intro k
 simp only[Array.getElem?_modify]
 by_cases hk:b=k
 ·subst hk;simp[h,onCells]
 simp[hk]
theorem axX (F cur:Array Value) (hF:F.size≤cur.size):(putCells (fun v=>v) 0 F cur).toList=F.toList++cur.toList.drop F.size:=by
 apply List.ext_getElem?
 intro i
 have h1:(putCells (fun v=>v) 0 F cur).toList[i]?=(cur[i]?).map fun x=>if i < F.size then F[i]! else x:=by
  rw[Array.getElem?_toList]
  unfold putCells
  rw[Array.getElem?_mapIdx]
  simp
 rw[h1,List.getElem?_append]
 by_cases hi:i < F.size
 ·have:i < cur.size:=by omega
  simp[hi,this]
 simp[hi,List.getElem?_drop,show F.size+(i - F.size)=i by omega]
theorem aoR {α:Type} [Inhabited α] (venc:α→List Value) (k:Nat) (hv:∀ x,(venc x).length=k) (d:Array α):(flatK venc k d).toList=d.toList.flatMap venc:=by
 apply List.ext_getElem?
 intro i
 have bS:∀ (l:List α) (i:Nat),(l.flatMap venc)[i]?=(l[i / k]?).bind fun x=>(venc x)[i % k]?:=by
  intro l
  induction l with
  | nil=>intro i;simp
  | cons x l ih=>
   intro i
   rw[List.flatMap_cons,List.getElem?_append,hv]
   by_cases hi:i < k
   ·rw[if_pos hi,Nat.div_eq_of_lt hi,Nat.mod_eq_of_lt hi];simp
   rw[if_neg hi,ih]
   have hk:0 < k∨k=0:=by omega
   rcases hk with hk | hk
   ·have e1:i / k=(i - k) / k+1:=by rw[Nat.div_eq_sub_div hk (by omega)]
    have e2:i % k=(i - k) % k:=by rw[Nat.mod_eq_sub_mod (by omega)]
    rw[e1,e2];simp
   subst hk
   have hz:∀ y:α,venc y=[]:=fun y=>List.eq_nil_of_length_eq_zero (hv y)
   simp[hz]
 rw[bS]
 have aS:(flatK venc k d).toList.length=d.size*k:=by simp
 by_cases hi:i < d.size*k
 ·have hk:0 < k:=by
             rcases Nat.eq_zero_or_pos k with h | h;· subst h;simp at hi
             exact h
  have hd:i / k < d.size:=(Nat.div_lt_iff_lt_mul hk).2 hi
  have hm:i % k < k:=Nat.mod_lt _ hk
  have hg:=get_flatK venc k d i hi
  rw[Array.getElem?_toList,Array.getElem?_eq_getElem (by simpa using hi),Array.getElem?_toList,Array.getElem?_eq_getElem hd]
  rw[getElem!_pos _ i (by simpa using hi),getElem!_pos d _ hd] at hg
  rw[hg]
  simp only[Option.bind_some]
  rw[getElem!_pos _ _ (by rw[hv];exact hm),List.getElem?_eq_getElem (by rw[hv];exact hm)]
 rw[List.getElem?_eq_none (by rw[aS];omega)]
 rcases Nat.eq_zero_or_pos k with h | h
 ·subst h
  have hz:∀ y:α,venc y=[]:=fun y=>List.eq_nil_of_length_eq_zero (hv y)
  cases d.toList[i / 0]?<;>simp[hz]
 rw[List.getElem?_eq_none (by rw[Array.length_toList];exact(Nat.le_div_iff_mul_le h).2 (by omega))];rfl
section
variable {P:Program} {V:Env} {w0 w:World} {I0 I:aC} {m:Nat→Value} {l:List AO} {α:Type} [Inhabited α]
theorem aI.grown (h:aI w0 I0 w I m l) (q:Nat) (os:Array Obj):aI w0 I0 (grow (w.drewN q) os) I m l∧Le I m l I m l:=by
 have hb:∀ k,k < w.heap.size→(grow (w.drewN q) os).heap[k]?=w.heap[k]?:=fun k hk=>by simp[grow,Array.getElem?_append,hk]
 refine h.call ⟨rfl,rfl,rfl,by simp[grow],fun k hk=>hb k hk,fun _=>by simp[grow,World.drewN]⟩ (jn.refl _ _) ⟨fun b o v hc=>?_,fun b es hc=>?_,fun b hd=>(hb b (h.sat.tu hd)).trans (h.sat.df b hd),h.sat.dS⟩
 ·exact(World.cell?_of_block (w:=w) (a:=⟨b,o,none⟩) (hb b (h.sat.lt hc))).trans (h.sat.cell b o v hc)
 have hh:=h.sat.mp b es hc
 exact iT.to (hb b (h.sat.wi hc)) hh
theorem aI.sorted (aq:aI w0 I0 w I m l) {id b c e size:Nat} {els:List D} {ys:List α} {venc:α→List Value} {denc:α→D} (ho:l[id]?=some (.row e size els)) (hm:m id = .slice (some ⟨b,0,none⟩) els.length c)
  (hlen:ys.length=els.length) (hv:∀ x,(venc x).length=size) (hd:∀ x,(denc x).cells.length=size∧∀ y∈(denc x).cells,y.one=true) (E7:∀ x (j:Nat) u y,(venc x)[j]?=some u→(denc x).cells[j]?=some y→Rd I u y) (q:Nat) (os:Array Obj) :
  Le I m l I m (l.set id (.row e size (ys.map denc)))∧aI w0 I0 (sortWorldK venc size w b 0 q ys.toArray os) I m (l.set id (.row e size (ys.map denc))):=by
 obtain⟨xs,k1,k2,k3,k4⟩:=aq.obj id _ ho
 rw[hm] at k1
 obtain⟨cw,tX⟩:=k1
 rcases tX with ⟨E6,_⟩ | ⟨g,cap,cur,E6,hb,hg,gE,rY,eW,jc⟩
 ·cases E6
 injection E6 with jd HZ yC
 injection jd with jd;injection jd with jd;subst jd;subst yC
 have hF:(flatK venc size ys.toArray).size=els.length*size:=by simp[hlen]
 have hFl:(flatK venc size ys.toArray).toList=ys.flatMap venc:=by rw[aoR venc size hv]
 have hle:els.length*size≤cur.size:=by rw[eW];exact Nat.mul_le_mul_right _ gE
 have w7:=axX (flatK venc size ys.toArray) cur (by rw[hF];exact hle)
 have hww:sortWorldK venc size w b 0 q ys.toArray os=grow ((w.setRow b (putCells (fun v=>v) 0 (flatK venc size ys.toArray) cur)).drewN q) os:=by
  unfold sortWorldK putRowK putRow
  have zD:(Sort.ahead w q).heap[b]?=some (.cells cur e (0,0)):=hg
  rw[avf _ b _ cur e (0,0) zD]
  rfl
 generalize fA:putCells (fun v=>v) 0 (flatK venc size ys.toArray) cur=new at w7 hww
 have pj:new.size=cur.size:=by rw[←fA];simp[putCells]
 have bS:flat (ys.map denc)=ys.flatMap fun x=>(denc x).cells:=by simp[flat,List.flatMap_map]
 have f1:(ys.flatMap venc).length=(ys.map denc).length*size:=by rw[←hFl,Array.length_toList,hF,List.length_map,hlen]
 have f2:new.toList.take ((ys.map denc).length*size)=ys.flatMap venc:=by
  rw[w7,List.length_map,hlen,←hF,List.take_append_of_le_length (by rw[Array.length_toList];exact Nat.le_refl _),List.take_of_length_le (by rw[Array.length_toList];exact Nat.le_refl _),hFl]
 have f3:∀ d∈ys.map denc,d.cells.length=size∧∀ x∈d.cells,x.one=true:=by
  intro d XB
  obtain⟨x,_,rfl⟩:=List.mem_map.1 XB
  exact hd x
 have f4:∀ (j:Nat) u y,(ys.flatMap venc)[j]?=some u→(flat (ys.map denc))[j]?=some y→Rd I u y:=by
  intro j u y hu hy
  rw[bS] at hy
  have key:∀ (zs:List α) (j:Nat),(zs.flatMap venc)[j]?=some u→(zs.flatMap fun x=>(denc x).cells)[j]?=some y→Rd I u y:=by
   intro zs
   induction zs with
   | nil=>intro j hu;simp at hu
   | cons z zs ih=>
    intro j hu hy
    rw[List.flatMap_cons,List.getElem?_append,hv] at hu
    rw[List.flatMap_cons,List.getElem?_append,(hd z).1] at hy
    by_cases hj:j < size
    ·rw[if_pos hj] at hu hy;exact E7 z j u y hu hy
    rw[if_neg hj] at hu hy;exact ih _ hu hy
  exact key ys j hu hy
 obtain⟨h1,h2⟩:=aq.OO (n:=els.length) (c:=c) (cur:=cur) (new:=new) (xs:=ys.flatMap venc) (els':=ys.map denc) ho hm hg ⟨f1,.inr ⟨b,c,new,by simp[hlen],hb,setRow_heap w b cur new e (0,0) hg,by simpa [hlen] using gE,rY,by rw[pj,eW],f2⟩⟩ f3 f4
 obtain⟨h3,_⟩:=h2.grown q os
 rw[hww]
 exact⟨h1,h3⟩
theorem apl (EX:ck.on) {w w':World} (h:eL w.heap.size w w'):∃ q os,w'=grow (w.drewN q) os:=by
 refine⟨w'.drawn - w.drawn,w'.heap.extract w.heap.size w'.heap.size,?_⟩
 obtain⟨heap,tape,drawn,os,output⟩:=w'
 obtain⟨h1,h2,h3,h4,h5,h6⟩:=h
 have h6:=h6 EX
 simp only at h1 h2 h3 h4 h5 h6
 subst h1;subst h2;subst h3
 unfold grow World.drewN
 simp only
 congr 1
 ·apply Array.ext_getElem?
  intro k
  rw[Array.getElem?_append]
  split
  ·rename_i hk;exact h5 k hk
  rename_i hk
  simp only[Array.getElem?_extract]
  by_cases HU:k < heap.size
  ·have:w.heap.size+(k - w.heap.size)=k:=by omega
   rw[this];simp;omega
  rw[Array.getElem?_eq_none (by omega)];simp;omega
 omega
end
end Go.an
namespace Go.an
open Go Go.RowKit au
variable [ck] [dx]
section
variable {P:Program} {V:Env} {w0:World} {I0:aC} {n:Nat} {Q:Exit→St→Prop} {s:St}
theorem ab.nilCheck (hV:bO P V) {id i j k t e size sz bt:Nat} {z els:List D} {o1 o2:Oper} (h1:o1.op = .move (.tmp i)) (HN:o1.dst=some j) (EP:o1.guard=none) (h2:o2.op = .binOp .eql t (.tmp j) (.const (.slice none 0 0)) t) (HO:o2.dst=some k) (A5:o2.guard=none)
  (tZ:j < n) (hkn:k < n) (hE:V.E t=some ⟨sz,bt,z,.slice e⟩) (hs:get s.t i = .d (.slice size els))
  (hQ:∀ b,(b=true→els=[])→Q .normal ⟨(k,.d (.bool b))::(j,.d (.slice size els))::s.t,s.l⟩):ab P w0 I0 n (.region id #[o1,o2] false) s Q:=fun a w hr=>by
 refine wpIn_region_lit (l:=[o1,o2]) ?_
 unfold wpListIn
 have he:bu V n [o1,o2] none [o1] s (fun q=>q=⟨(j,.d (.slice size els))::s.t,s.l⟩):=by
  simp[bu,EP,dU,dz,evalOp,h1,bd,hs,typed,R.ok,holds,cR,HN,tZ,after,bq]
 refine K0 hV hr he fun s1 a1 w1 hq uX=>?_
 simp only[bu] at hq
 subst hq
 unfold wpListIn
 have hw:Region.wanted o2 (yielded [o1,o2].toArray a1.tmps)=true:=by simp[Region.wanted,A5]
 rw[if_pos hw]
 refine cz.wpIn (by simp[h2]) ?_
 obtain⟨q1,I,m,q3,q2,q4⟩:=uX
 have hv:=dp (by have:=q4 j;simpa [get] using this)
 obtain⟨A,c,hA⟩:=ale hv
 have hu:=uo hV.E hE
 have dL:(execOp a1.eval o2).run P w1 = .ok (.value (.bool A.isNone)) w1:=by
  have sY:a1.eval (.tmp j) = .slice A els.length c:=by simpa [Act.eval,Array.getD_eq_getD_getElem?] using hA
  have arE:a1.eval (.const (.slice none 0 0)) = .slice none 0 0:=rfl
  have h3:=Lib.run_eql_slice_nil (P:=P) w1 t e A els.length c 0 0 hu
  unfold execOp
  simp only[h2,sY,arE,Sem.run_bind,eqGuard]
  simp[h3]
 rw[dL]
 simp only[cz]
 unfold wpListIn
 refine⟨_,hQ A.isNone ?_,?_⟩
 ·intro hb
  rw[hA] at hv
  cases A with
  | none=>
   generalize hl:els.length=q at hv
   cases hv
   rfl
  | some a=>cases hb
 exact⟨by simp[HO,Act.put,q1],I,m,q3,q2.put (.refl I),z6 (dst:=some k) q1 (by simp[cR,hkn]) q4 (.d _ _ (.bool _)) |> fun h=>by rw[HO];exact h⟩
end
def T.shift (k:Nat):T→T
 | .row id=> .row (id+k)
 | .map id=> .map (id+k)
 | .d x=> .d x
 | .ao s=> .ao s
 | _=> .undef
def akT (lc:List AO):Prop:=∀ o∈lc,o.isRow=true∨o = .dead
section
variable {P:Program} {w0 w w':World} {I0 I J:aC} {m mc:Nat→Value} {l lc:List AO}
theorem akQ {w:World} {base ae7:Nat} {e:TypeId} {size:Nat} {v:Value} {n:Nat} {xs:List Value} (h:w.ownsRow base e size v n xs) (hb:ae7≤base):w.ownsRow ae7 e size v n xs:=by
 refine⟨h.1,?_⟩
 rcases h.2 with hn | ⟨g,cap,cur,hv,hbg,rest⟩
 ·exact .inl hn
 exact .inr ⟨g,cap,cur,hv,Nat.le_trans hb hbg,rest⟩
def xu (k:Nat) (m mc:Nat→Value):Nat→Value:=fun i=>if i < k then m i else mc (i - k)
theorem aI.join (h:aI w0 I0 w I m l) (hc:aI w I w' J mc lc) (hr:akT lc):Le I m l J (xu l.length m mc) (l++lc)∧aI w0 I0 w' J (xu l.length m mc) (l++lc):=by
 obtain⟨h1,HV⟩:=h.call hc.below hc.ext hc.sat
 have aN:∀ id,id < l.length→xu l.length m mc id=m id:=fun id aB=>by simp[xu,aB]
 have qZ:∀ k,xu l.length m mc (l.length+k)=mc k:=fun k=>by simp only[xu];rw[if_neg (by omega)];congr 1;omega
 have hV:∀ id,id < l.length→isVar (l++lc) id=isVar l id:=fun id aB=>by unfold isVar;rw[List.getElem?_append_left aB]
 have hR:∀ id,id < l.length→isRow (l++lc) id=isRow l id:=fun id aB=>by unfold isRow;rw[List.getElem?_append_left aB]
 have r9:Le J m l J (xu l.length m mc) (l++lc):=by
  refine⟨.refl J,by simp,fun id aB hv=>⟨(hV id aB).trans hv,aN id aB⟩,fun id aB hv=>⟨(hR id aB).symm.trans hv,aN id aB⟩,fun id e' s' els aB hl=>⟨els,?_⟩⟩
  rwa [List.getElem?_append_left aB] at hl
 have dD:∀ i,alive (l++lc) i=true→(i < l.length∧alive l i=true)∨∃ k,i=l.length+k∧alive lc k=true:=by
  intro i hi
  obtain⟨o,ho,hd⟩:=bZ.1 hi
  rcases Nat.lt_or_ge i l.length with h | h
  ·rw[List.getElem?_append_left h] at ho
   exact .inl ⟨h,bZ.2 ⟨o,ho,hd⟩⟩
  rw[List.getElem?_append_right h] at ho
  exact .inr ⟨i - l.length,by omega,bZ.2 ⟨o,ho,hd⟩⟩
 have low:∀ i b,i < l.length→alive l i=true→own (m i)=some b→b < w.heap.size:=by
  intro i b hi ha hb
  obtain⟨o,ho,hd⟩:=bZ.1 ha
  exact((h.obj i o ho).lt hd hb).1
 have high:∀ k b,alive lc k=true→own (mc k)=some b→w.heap.size≤b:=by
  intro k b ha hb
  obtain⟨o,ho,hd⟩:=bZ.1 ha
  exact((hc.obj k o ho).lt hd hb).2
 refine⟨HV.trans r9,⟨h1.below,h1.sat,h1.ext,fun id o ho=>?_,fun i j b cj hi hj cY cT=>?_⟩⟩
 ·rcases Nat.lt_or_ge id l.length with aB | aB
  ·rw[List.getElem?_append_left aB] at ho
   rw[aN id aB]
   by_cases hd:o = .dead
   ·subst hd;trivial
   exact(h1.obj id o ho).pR r9 (fun _ _=>rfl) (fun _ _=>⟨rfl,rfl⟩)
  rw[List.getElem?_append_right aB] at ho
  have hk:=hc.obj _ o ho
  have:xu l.length m mc id=mc (id - l.length):=by simp[xu,Nat.not_lt.2 aB]
  rw[this]
  have pO:w0.heap.size≤w.heap.size:=h.below.size
  rcases hr o (List.mem_of_getElem? ho) with Rq | rfl
  ·cases o with
   | dead=>trivial
   | var ty cs=>cases Rq
   | row e size els=>
    obtain⟨xs,q1,q2⟩:=hk
    exact⟨xs,akQ q1 pO,q2⟩
   | cF e size els=>
    obtain⟨xs,q1,q2⟩:=hk
    exact⟨xs,akQ q1 pO,q2⟩
   | map ks vs=>
    obtain⟨b,es,q1,q2,q3⟩:=hk
    exact⟨b,es,q1,Nat.le_trans pO q2,q3⟩
   | oR ks vs=>
    obtain⟨b,es,q1,q2,q3⟩:=hk
    exact⟨b,es,q1,Nat.le_trans pO q2,q3⟩
   | iter ks vs done=>cases Rq
   | frame b vals t=>cases Rq
   | loop b n ps cQ body t st ed=>cases Rq
  trivial
 rcases dD i hi with ⟨i1,i2⟩ | ⟨k,rfl,k2⟩
 ·rw[aN i i1] at cY
  rcases dD j hj with ⟨j1,j2⟩ | ⟨q,rfl,q2⟩
  ·rw[aN j j1] at cT;exact h.sep i j b cj i2 j2 cY cT
  rw[qZ q] at cT
  have:=low i b i1 i2 cY
  have:=high q b q2 cT
  omega
 rw[qZ k] at cY
 rcases dD j hj with ⟨j1,j2⟩ | ⟨q,rfl,q2⟩
 ·rw[aN j j1] at cT
  have:=low j b j1 j2 cT
  have:=high k b k2 cY
  omega
 rw[qZ q] at cT
 exact hc.sep k q b (fun e=>cj (by rw[e])) k2 q2 cY cT
theorem aw.shift {I:aC} {v:Value} {t:T} (h:aw I mc lc v t):aw I (xu l.length m mc) (l++lc) v (t.shift l.length):=by
 have qZ:∀ k,xu l.length m mc (k+l.length)=mc k:=fun k=>by simp only[xu];rw[if_neg (by omega)];congr 1;omega
 have hR:∀ k,isRow (l++lc) (k+l.length)=isRow lc k:=fun k=>by unfold isRow;rw[List.getElem?_append_right (by omega),Nat.add_sub_cancel]
 cases h with
 | d v x hx=>exact .d _ _ hx
 | ao s=>exact .ao _
 | row A n c id h1 h2=>exact .row A n c _ (by simp;omega) fun hl=>by rw[qZ];rw[hR] at hl;exact h2 hl
 | map r id h1 h2=>exact .map r _ (by simp;omega) fun hl=>by rw[qZ];rw[hR] at hl;exact h2 hl
 | _=>exact .undef _
def DM (P:Program) (f:FuncId) (ds:List D) (t:T) (lc:List AO):Prop:=
 ∀ (w:World) (I:aC) (vs:Array Value),eD w I→vs.size=ds.length→(∀ (i:Nat) v d,vs[i]?=some v→ds[i]?=some d→Rd I v d) →
  Calls P f vs w fun e w'=>∃ v J mc,e = .returned v∧aI w I w' J mc lc∧aw J mc lc v t
theorem qG.ajA {f:FuncId} {ts:List T} {l l1:List AO} {ds:List D} {t:T} {lc:List AO} (hd:dQ l ts=some (ds,l1)) (h:DM P f ds t lc) (hr:akT lc):qG P f ts l (t.shift l1.length) (l1++lc):=by
 intro w0 I0 w I m args aq aS dV
 obtain⟨J1,pS,r1,w8,dg,_⟩:=DQ ts l I args.toList ds l1 aq (by simpa using aS) (fun i v x hv hx=>dV i v x (by simpa using hv) hx) hd
 refine(h w J1 args r1.sat (by simpa using w8) (fun i v d hv bg=>dg i v d (by simpa using hv) bg)).mono ?_
 rintro e w' ⟨v,J,mc,he,hw,hv⟩
 obtain⟨h1,h2⟩:=r1.join hw hr
 exact⟨v,he,J,_,pS.trans h1,h2,hv.shift⟩
theorem DM.of {f:FuncId} {fn:Func} {c:Code} {ds:List D} {t:T} {lc:List AO} {k:Nat} (hf:P.funcs[f]?=some fn) (hb:fn.body=some c) (hn:ds.length≤fn.ntmps) (dt:fn.results = #[.tmp k])
  (h:∀ (R:dx),R.r=none→∀ w0 I0 (Q:Exit→St→Prop),(∀ e s,(e = .ret∨e = .normal)→Sub s ⟨[(k,t)],lc⟩→Q e s)→ab P w0 I0 fn.ntmps c ⟨fk 0 ds,[]⟩ Q):DM P f ds t lc:=by
 intro w I vs bX hlen dg
 let R:dx:=⟨none,I.df⟩
 refine Vx (R:=fun e w'=>∃ v J mc,e = .returned v∧aI w I w' J mc lc∧aw J mc lc v t) rfl hf hb ?_
 have aq:Rel w I fn.ntmps ⟨fk 0 ds,[]⟩ { tmps:=vs++Array.replicate (fn.ntmps - vs.size) undef,defers:=[] } w:=by
  refine⟨by simp;omega,I,fun _=>undef,⟨eL.refl _ _,bX,jn.refl _ _,by simp,by simp[alive,isVar,isRow]⟩,iS.nil fun _ h=>h,fun k=>?_⟩
  rw[acX]
  simp only[Nat.zero_le,if_true,Nat.sub_zero]
  cases hd:ds[k]? with
  | none=>exact .undef _
  | some d=>
   have hk:k < vs.size:=by rw[hlen];exact(List.getElem?_eq_some_iff.1 hd).1
   have hv:vs[k]?=some vs[k]:=Array.getElem?_eq_getElem hk
   have:(vs++Array.replicate (fn.ntmps - vs.size) undef).getD k undef=vs[k]:=by
    rw[Array.getD_eq_getD_getElem?,Array.getElem?_append_left hk,hv];rfl
   rw[this]
   exact .d _ _ (dg k _ d hv hd)
 refine Code.wpIn_mono (fun e a w1 ⟨s,⟨he,hs⟩,hr⟩=>?_) (h R rfl w I (fun e s=>(e = .ret∨e = .normal)∧Sub s ⟨[(k,t)],lc⟩) (fun _ _ h1 h2=>⟨h1,h2⟩) _ _ aq)
 obtain⟨_,J1,m,qy,dZ,E5⟩:=hs _ _ _ _ _ hr
 obtain⟨w',J,hw,_,CL,cM⟩:=VP (P:=P) (fn:=fn) (a:=a) he qy dZ
 refine cM _ ?_
 have ht:∀ j,aw J m lc (a.tmps.getD j undef) (get [(k,t)] j):=fun j=>CL _ _ (E5 j)
 have dL:(results fn a.tmps).run P w' = .ok (a.tmps.getD k undef) w':=by
  rw[acf,dt]
  simp[I8]
 have hv:=ht k
 simp only[get,if_true] at hv
 exact⟨_,dL,_,J,m,rfl,hw,hv⟩
end
end Go.an
namespace Go.an
open Go Go.RowKit au Go.Proofs Go.Sort
variable [ck]
section
variable {P:Program} {V:Env} {w0 w:World} {I0 I:aC} {m:Nat→Value} {l:List AO} {α:Type} [Inhabited α]
theorem afq (EX:ck.on) {P:Program} {g k:Nat} {venc:α→List Value} {denc:α→D} {cf:α→α→Int} {caps:List D} (ym:∀ x y,ee P g ([denc x,denc y]++caps) (.int .i64 (cf x y))) (hag:∀ I x,Rd I (.agg (venc x).toArray) (denc x)) {JW off size:Nat} {w:World} {I:aC} {vs:Array Value}
  (eW:vs.size=caps.length) (hcr:∀ (i:Nat) v d,vs[i]?=some v→caps[i]?=some d→Rd I v d) (bX:∀ (mm:Nat) (os:Array Obj) (dk:Array α),dk.size=size→eD (sortWorldK venc k w JW off mm dk os) I):CmpLays P g vs venc k cf JW off size w:=by
 intro mm os dk hs x y
 have aS:(#[Value.agg (venc x).toArray,Value.agg (venc y).toArray]++vs).size=([denc x,denc y]++caps).length:=by
  rw[Array.size_append,List.length_append,eW];rfl
 have dg:∀ (i:Nat) v d,(#[Value.agg (venc x).toArray,Value.agg (venc y).toArray]++vs)[i]?=some v→([denc x,denc y]++caps)[i]?=some d→Rd I v d:=by
  intro i v d hv hd
  rcases i with _ | _ | i
  ·rw[Array.getElem?_append_left (by simp)] at hv
   simp at hv hd;subst hv;subst hd;exact hag I x
  ·rw[Array.getElem?_append_left (by simp)] at hv
   simp at hv hd;subst hv;subst hd;exact hag I y
  rw[Array.getElem?_append_right (by simp)] at hv
  exact hcr i v d (by simpa using hv) (by simpa using hd)
 have h:=ym x y (sortWorldK venc k w JW off mm dk os) I (#[Value.agg (venc x).toArray,Value.agg (venc y).toArray]++vs) (bX mm os dk hs) aS dg
 refine h.mono ?_
 rintro e w' ⟨v,J,he,hb,_,_,hr⟩
 cases hr
 exact⟨he,apl EX hb⟩
theorem alp {P:Program} {g:Nat} {fd:D} {e size:Nat} {venc:α→List Value} {denc:α→D} {S:Array α→Array α} (hS:∀ d,(S d).size=d.size)
  (ym:∀ (b c:Nat) (d:Array α) (w:World) (I:aC) (fv:Value),HoldsK venc size w b 0 d→b < w.heap.size→d.size < 4611686018427387904→Rd I fv fd→(∀ (mm:Nat) (os:Array Obj) (dk:Array α),dk.size=d.size→eD (sortWorldK venc size w b 0 mm dk os) I)→Calls P g #[.slice (some ⟨b,0,none⟩) d.size c,fv] w fun e w'=>e = .returned (.tuple #[])∧∃ n os,w'=sortWorldK venc size w b 0 n (S d) os)
  (zE:∀ (p:Option Addr) (c:Nat) (fv:Value) (w:World),Calls P g #[.slice p 0 c,fv] w fun e w'=>e = .returned (.tuple #[])∧w'=w)
  (hv:∀ x,(venc x).length=size) (hd:∀ x,(denc x).cells.length=size∧∀ y∈(denc x).cells,y.one=true) (E7:∀ (I:aC) x (j:Nat) u y,(venc x)[j]?=some u→(denc x).cells[j]?=some y→Rd I u y) (hdv:∀ (I:aC) x (j:Nat) u y,(denc x).cells[j]?=some y→Rd I u y→(venc x)[j]?=some u)
  {l:List AO} {id:Nat} {xs:List α} (ho:l[id]?=some (.row e size (xs.map denc))) (hx:xs.length < 4611686018427387904) :
  qG P g [.row id,.d fd] l (.d (.bn [])) (l.set id (.row e size ((S xs.toArray).toList.map denc))):=by
 intro w0 I0 w I m args aq aS dV
 obtain⟨v0,v1,rfl⟩:∃ v0 v1,args = #[v0,v1]:=by
  match args,aS with
  | ⟨[a,b]⟩,_=>exact⟨a,b,rfl⟩
 have h0:=dV 0 v0 (.row id) rfl rfl
 have h1:=dp (dV 1 v1 (.d fd) rfl rfl)
 obtain⟨ys,k1,k2,k3,k4⟩:=aq.obj id _ ho
 obtain⟨A,n,c,E6,hm⟩:∃ A n c,v0 = .slice A n c∧m id=v0:=by
  cases h0 with
  | row A n c _ p1 p2=>exact⟨A,n,c,rfl,p2 (by simp[isRow,ho,AO.isRow])⟩
 rw[hm,E6] at k1
 obtain⟨cw,tX⟩:=k1
 have hY:id < l.length:=(List.getElem?_eq_some_iff.1 ho).1
 rcases tX with ⟨hs,EW⟩ | ⟨b,cap,cur,hs,hb,hg,gE,rY,eW,jc⟩
 ·injection hs with q1 q2 q3;subst q1;subst q2;subst q3
  have qz:xs=[]:=by simpa using EW
  subst qz
  subst E6
  refine(zE none 0 _ w).mono ?_
  rintro e' w' ⟨he,hw⟩
  subst hw
  have hS0:(S ([]:List α).toArray).toList=[]:=by have:=hS ([]:List α).toArray;exact List.eq_nil_of_length_eq_zero (by rw[Array.length_toList,this];rfl)
  have j9:l.set id (.row e size ((S ([]:List α).toArray).toList.map denc))=l:=by
   rw[hS0]
   apply List.ext_getElem?
   intro k
   rw[List.getElem?_set]
   by_cases hk:id=k
   ·subst hk;rw[if_pos rfl,if_pos hY,ho]
   rw[if_neg hk]
  rw[j9]
  exact⟨_,he,I,m,.refl ..,aq,.d _ _ (.bn #[] [] rfl (fun i v d h=>by simp at h))⟩
 injection hs with q1 q2 q3;subst q1;subst q2;subst q3
 subst E6
 have hlen:(xs.map denc).length=xs.toArray.size:=by simp
 have oz:∀ j,j < xs.toArray.size*size→∃ u,cur[j]?=some u∧ys[j]?=some u∧(flatK venc size xs.toArray)[j]! = u:=by
  intro j hj
  have gO:j < ys.length:=by rw[cw,hlen];exact hj
  obtain⟨z,hu⟩:∃ z,ys[j]?=some z:=⟨_,List.getElem?_eq_getElem gO⟩
  have hcu:cur[j]?=some z:=by
   have hu:=hu
   rw[←jc,List.getElem?_take] at hu
   split at hu
   ·simpa using hu
   cases hu
  refine⟨_,hcu,hu,?_⟩
  have hk:0 < size:=by
               rcases Nat.eq_zero_or_pos size with h | h;· subst h;simp at hj
               exact h
  have XC:j / size < xs.toArray.size:=(Nat.div_lt_iff_lt_mul hk).2 hj
  have Re:j % size < size:=Nat.mod_lt _ hk
  rw[get_flatK venc size xs.toArray j hj]
  have XJ:=flat_get (xs.map denc) (fun d XB=>(k2 d XB).1) (j / size) (j % size) (denc xs[j / size]) (by rw[List.getElem?_map,List.getElem?_eq_getElem (by simpa using XC)];rfl) Re
  rw[Nat.mul_comm,Nat.div_add_mod] at XJ
  obtain⟨y,hy⟩:∃ y,(denc xs[j / size]).cells[j % size]?=some y:=⟨_,List.getElem?_eq_getElem (by rw[(hd (xs[j / size]'(by simpa using XC))).1];exact Re)⟩
  rw[hy] at XJ
  have dg:=k3 j _ y hu XJ
  have:=hdv I _ _ _ _ hy dg
  rw[getElem!_pos xs.toArray _ XC,getElem!_pos _ _ (by rw[hv];exact Re)]
  rw[List.getElem?_eq_getElem (by rw[hv];exact Re)] at this
  simpa using this
 have hH:HoldsK venc size w b 0 xs.toArray:=by
  intro j hj
  rw[size_flatK] at hj
  obtain⟨u,h1,_,h3⟩:=oz j hj
  rw[h3]
  refine⟨?_,?_⟩
  ·simp[World.cell?,hg,h1]
  simp[World.frozen?,hg]
 have aN:b < w.heap.size:=(Array.getElem?_eq_some_iff.1 hg).1
 rw[hlen]
 refine(ym b c xs.toArray w I v1 hH aN (by simpa using hx) h1 (fun mm os dk EO=>(aq.sorted (ys:=dk.toList) (venc:=venc) (denc:=denc) ho (by rw[hm]) (by rw[Array.length_toList,EO,hlen]) hv hd (fun x j u y=>E7 I x j u y) mm os).2.sat)).mono ?_
 rintro e' w' ⟨he,q,os,hw⟩
 obtain⟨g1,g2⟩:=aq.sorted (ys:=(S xs.toArray).toList) (venc:=venc) (denc:=denc) ho (by rw[hm]) (by rw[Array.length_toList,hS,hlen]) hv hd (fun x j u y=>E7 I x j u y) q os
 refine⟨_,he,I,m,g1,?_,.d _ _ (.bn #[] [] rfl (fun i v d h=>by simp at h))⟩
 rw[hw];simpa using g2
end
end Go.an
namespace Go.an
open Go Go.RowKit au Go.Proofs Go.Sort
def vD:D→Value
 | .int k n=> .int k n
 | .bool b=> .bool b
 | .str s=> .string s
 | _=>undef
def BT:D→Bool
 | .int .. =>true
 | .bool _=>true
 | .str _=>true
 | _=>false
theorem amx (I:aC) {y:D} (h:BT y=true):Rd I (vD y) y:=by cases y<;>simp[BT] at h<;>constructor
theorem aAB {I:aC} {u:Value} {y:D} (h:BT y=true) (r:Rd I u y):u=vD y:=by cases y<;>simp[BT] at h<;>cases r<;>rfl
section
variable {α:Type} [au α]
def pF (x:α):List Value:=(enc x:D).cells.map vD
structure Flat (α:Type) [au α] (k:Nat):Prop where
 agg:∀ x:α,(enc x:D) = .agg (enc x:D).cells
 len:∀ x:α,(enc x:D).cells.length=k
 sc:∀ (x:α),∀ y∈(enc x:D).cells,BT y=true
theorem acq {y:D} (h:BT y=true):y.one=true:=by cases y<;>simp[BT] at h<;>rfl
theorem Flat.rd {k:Nat} (F:Flat α k) (I:aC) (x:α):Rd I (.agg (pF x).toArray) (enc x):=by
 rw[F.agg x]
 refine .agg _ _ (by simp[pF,D.cells]) (fun d hd=>acq (F.sc x d hd)) fun i v d hv hd=>?_
 simp only[pF,List.getElem?_toArray,List.getElem?_map] at hv
 have bg:(enc x:D).cells[i]?=some d:=hd
 rw[bg] at hv
 simp at hv;subst hv
 exact amx I (F.sc x d (List.mem_of_getElem? bg))
theorem Flat.vd {k:Nat} (F:Flat α k) (I:aC) (x:α) (j:Nat) (u:Value) (y:D) (hu:(pF x)[j]?=some u) (hy:(enc x:D).cells[j]?=some y):Rd I u y:=by
 simp only[pF,List.getElem?_map,hy] at hu
 simp at hu;subst hu
 exact amx I (F.sc x y (List.mem_of_getElem? hy))
theorem Flat.dv {k:Nat} (F:Flat α k) (I:aC) (x:α) (j:Nat) (u:Value) (y:D) (hy:(enc x:D).cells[j]?=some y) (hr:Rd I u y):(pF x)[j]?=some u:=by
 simp only[pF,List.getElem?_map,hy]
 rw[aAB (F.sc x y (List.mem_of_getElem? hy)) hr];rfl
end
section
variable {α:Type}
def bD (cf:α→α→Int) (l:List α):List α:=l.mergeSort fun a b=> !decide (cf b a < 0)
theorem vt (cf:α→α→Int) (l:List α):(bD cf l).Perm l:=List.mergeSort_perm _ _
theorem lt_iff (cf:α→α→Int) (a b:α):ltOf cf a b=true↔cf a b < 0:=by simp[ltOf]
theorem Sv (cf:α→α→Int) (a b:α):ltOf cf a b=false↔¬ cf a b < 0:=by simp[ltOf]
theorem Dq {cf:α→α→Int} (h:SWO (ltOf cf)) (l:List α):(bD cf l).Pairwise fun a b=>¬ cf b a < 0:=by
 have:=List.pairwise_mergeSort (le:=fun a b=> !decide (cf b a < 0)) (fun a b c h1 h2=>by
  simp only[Bool.not_eq_true',decide_eq_false_iff_not] at *
  exact(Sv cf _ _).1 (h.ntrans _ _ _ ((Sv cf _ _).2 h2) ((Sv cf _ _).2 h1))) (fun a b=>by
  simp only[Bool.or_eq_true,Bool.not_eq_true',decide_eq_false_iff_not]
  by_cases hb:cf b a < 0
  ·right;intro h2
   have h3:=h.trans _ _ _ ((lt_iff cf _ _).2 h2) ((lt_iff cf _ _).2 hb)
   rw[h.irrefl] at h3;cases h3
  left;exact hb) l
 exact this.imp fun h=>by simpa using h
def oO (cf:α→α→Int) (l:List α):Prop:=∀ a∈l,∀ b∈l,¬ cf a b < 0→¬ cf b a < 0→a=b
theorem acy {cf:α→α→Int} {l m:List α} (hl:l.Pairwise fun a b=>¬ cf b a < 0) (hm:m.Pairwise fun a b=>¬ cf b a < 0) (hp:l.Perm m) (ha:oO cf l):l=m:=
 List.Perm.eq_of_pairwise (le:=fun a b=>¬ cf b a < 0) (fun a b h1 h2 h3 h4=>ha a h1 b (hp.symm.subset h2) h4 h3) hl hm hp
theorem oO.perm {cf:α→α→Int} {l m:List α} (h:oO cf l) (hp:l.Perm m):oO cf m:=fun a ha b hb=>h a (hp.symm.subset ha) b (hp.symm.subset hb)
section
variable {ok:α→Prop} [Inhabited {x:α // ok x}]
def Cs (ok:α→Prop) (cf:α→α→Int) (a b:{x:α // ok x}):Int:=cf a.1 b.1
theorem acZ {cf:α→α→Int} (h:SWO (ltOf cf)):SWO (ltOf (Cs ok cf)):=⟨fun x=>h.irrefl x.1,fun x y z=>h.trans x.1 y.1 z.1,fun x y z=>h.ntrans x.1 y.1 z.1⟩
def tB (ok:α→Prop) [Inhabited {x:α // ok x}] (cf:α→α→Int) (d:Array {x:α // ok x}):Array {x:α // ok x}:=Go.Sort.pdq (ltOf (Cs ok cf)) d 0 d.size (Go.Lib.bitLen d.size) true true
theorem acv {cf:α→α→Int} (h:SWO (ltOf cf)) (d:Array {x:α // ok x}):Go.Sort.PermIn 0 d.size d (tB ok cf d)∧Go.Sort.SortedIn (ltOf (Cs ok cf)) 0 d.size (tB ok cf d):=
 Go.Sort.pdq_sorts (ltOf (Cs ok cf)) (acZ h) d 0 d.size (Go.Lib.bitLen d.size) true true (Nat.zero_le _) (Nat.le_refl _) (Or.inl rfl)
theorem alh {cf:α→α→Int} (hs:SWO (ltOf cf)) {xs:List α} (h:∀ x∈xs,ok x) (ha:oO cf xs):∃ gs:List {x:α // ok x},gs.map (·.1)=xs∧(tB ok cf gs.toArray).toList.map (·.1)=bD cf xs:=by
 refine⟨xs.pmap Subtype.mk h,by simp[List.map_pmap],?_⟩
 generalize hg:xs.pmap Subtype.mk h=gs
 have LR:gs.map (·.1)=xs:=by rw[←hg];simp[List.map_pmap]
 obtain⟨h1,h2⟩:=acv hs gs.toArray
 have aS:=h1.1
 have hp:(tB ok cf gs.toArray).toList.Perm gs:=by
  have h3:=h1.2.2
  simp only[←aS,Array.extract_size] at h3
  rw[aS,Array.extract_size] at h3
  simpa using h3
 have hsd:((tB ok cf gs.toArray).toList.map (·.1)).Pairwise fun a b=>¬ cf b a < 0:=by
  rw[List.pairwise_map]
  refine List.pairwise_iff_getElem.2 fun i j hi hj cj=>?_
  have gi:i < (tB ok cf gs.toArray).size:=by simpa using hi
  have gO:j < (tB ok cf gs.toArray).size:=by simpa using hj
  have:=h2 i j (Nat.zero_le _) cj (by omega)
  rw[getElem!_pos (tB ok cf gs.toArray) i gi,getElem!_pos (tB ok cf gs.toArray) j gO] at this
  have:=(Sv (Cs ok cf) _ _).1 this
  simpa [Cs] using this
 have hpm:((tB ok cf gs.toArray).toList.map (·.1)).Perm xs:=by rw[←LR];exact hp.map _
 exact acy hsd (Dq hs xs) (hpm.trans (vt cf xs).symm) (ha.perm hpm.symm)
end
end
section
variable {α:Type} [au α]
theorem aoL (D1:ck) [D0:ck] (EX:@ck.on D1) (XA:@ck.uK D1=@ck.uK D0) {P:Program} {g cmp e k:Nat} {caps:List D} {ok:α→Prop} [Inhabited {x:α // ok x}] {cf:α→α→Int} (F:Flat α k) (hs:SWO (ltOf cf))
  (ym:∀ x y,ok x→ok y→@ee D1 P cmp ([enc x,enc y]++caps) (.int .i64 (cf x y)))
  (
   LG:∀ (b c:Nat) (d:Array {x:α // ok x}) (w:World) (vs:Array Value),CmpLays P cmp vs (fun x:{x:α // ok x}=>pF x.1) k (Cs ok cf) b 0 d.size w→HoldsK (fun x:{x:α // ok x}=>pF x.1) k w b 0 d→b < w.heap.size→d.size < 4611686018427387904 →
   Calls P g #[.slice (some ⟨b,0,none⟩) d.size c,.func (.func cmp) #[] vs] w fun e w'=>e = .returned (.tuple #[])∧∃ n os,w'=sortWorldK (fun x:{x:α // ok x}=>pF x.1) k w b 0 n (tB ok cf d) os)
  (zE:∀ (p:Option Addr) (c:Nat) (fv:Value) (w:World),Calls P g #[.slice p 0 c,fv] w fun e w'=>e = .returned (.tuple #[])∧w'=w)
  {l:List AO} {id:Nat} {xs:List α} (ho:l[id]?=some (.row e k (xs.map enc))) (hx:xs.length < 4611686018427387904) (fB:∀ x∈xs,ok x) (ha:oO cf xs) :
  qG P g [.row id,.d (.aR cmp caps)] l (.d (.bn [])) (l.set id (.row e k ((bD cf xs).map enc))):=by
 obtain⟨gs,EP,A5⟩:=alh hs fB ha
 have cv:l[id]?=some (.row e k (gs.map fun x:{x:α // ok x}=>(enc x.1:D))):=by rw[ho,←EP,List.map_map];rfl
 have:=alp (P:=P) (g:=g) (fd:= .aR cmp caps) (S:=tB ok cf) (venc:=fun x:{x:α // ok x}=>pF x.1) (denc:=fun x:{x:α // ok x}=>(enc x.1:D)) (fun d=>(acv hs d).1.1)
  (
   fun b c d w I fv hH hb hd LO bX=>by
   obtain⟨vs,rfl,h1,h2⟩:∃ vs,fv = .func (.func cmp) #[] vs∧vs.size=caps.length∧∀ (i:Nat) v d,vs[i]?=some v→caps[i]?=some d→Rd I v d:=by
    cases LO with
    | aR _ vs _ q1 q2=>exact⟨vs,rfl,q1,q2⟩
   exact LG b c d w vs (@afq D1 _ _ EX _ _ _ _ (fun x:{x:α // ok x}=>(enc x.1:D)) _ _ (fun x y=>ym x.1 y.1 x.2 y.2) (fun I x=>F.rd I x.1) _ _ _ _ I _ h1 h2 (fun mm os dk EO=>by
    have hI:=bX mm os dk EO
    exact @eD.mk D1 _ _ hI.cell hI.mp hI.df (fun g d h=>hI.dS g d (by rw[←XA];exact h)))) hH hb hd) zE
  (fun x=>by simp[pF,F.len]) (fun x=>⟨F.len x.1,fun y hy=>acq (F.sc x.1 y hy)⟩) (fun I x=>F.vd I x.1) (fun I x=>F.dv I x.1) cv (by rw[←EP] at hx;simpa using hx)
 have e:(tB ok cf gs.toArray).toList.map (fun x:{x:α // ok x}=>(enc x.1:D))=(bD cf xs).map enc:=by rw[←A5,List.map_map];rfl
 rw[e] at this
 exact this
end
end Go.an
namespace Go.an
open Go Go.RowKit
variable [ck] [dx]
def C2 (o:Oper):Bool:=vk o||match o.op with | .alloc _=>true | _=>false
theorem aoB {V:Env} {n:Nat} {ops:List Oper} {md:Way} {o:Oper} {st:St} {t':Tm} {l':List AO} (hk:C2 o=true) (h:bu V n ops md [o] st (fun q=>q=⟨t',l'⟩)):eM st.l l':=by
 unfold C2 at hk
 rw[Bool.or_eq_true] at hk
 rcases hk with hk | hk
 ·exact afP hk h
 have key:∀ (pc:PC) (ρ:Operand→T) (ob:Prop) (nid:Nat) q,after st o.dst pc ⟨(evalOp V ρ st.l nid o).t,(evalOp V ρ st.l nid o).bI,ob⟩=some q→q=⟨t',l'⟩→eM st.l l':=by
  intro pc ρ ob nid q ha hq
  subst hq
  cases hZ:o.op with
  | alloc e=>
   have sY:∃ c,(evalOp V ρ st.l nid o).bI = .new c∨(evalOp V ρ st.l nid o).bI = .none:=by
    unfold evalOp;simp only[hZ]
    split
    ·exact⟨_,.inl rfl⟩
    exact⟨.dead,.inr rfl⟩
   obtain⟨c,hc | hc⟩:=sY
   ·rw[hc] at ha
    unfold after at ha
    simp only at ha
    split at ha
    ·rename_i h2;cases h2
    ·rename_i h2;injection h2 with h2;injection ha with ha;injection ha with _ ha;rw[←ha];exact .append _ _
    ·rename_i h2;cases h2
    ·rename_i h2;cases h2
    cases ha
   rw[hc] at ha
   unfold after at ha
   simp only at ha
   split at ha
   ·injection ha with ha;injection ha with _ ha;rw[←ha];exact .refl _
   ·rename_i h2;cases h2
   ·rename_i h2;cases h2
   ·injection ha with ha;injection ha with _ ha;rw[←ha];exact .refl _
   cases ha
  | _=>rw[hZ] at hk;cases hk
 simp only[bu] at h
 split at h
 ·exact h.elim
 rename_i pc hg
 cases md with
 | none=>
  simp only at h
  obtain⟨_,_,h⟩:=h
  split at h
  ·rename_i s' cW
   cases pc with
   | nil=>exact key [] _ True _ s' cW h
   | cons y r=>exact key (y::r) _ True _ s' cW h
  exact h.elim
 | some sk=>
  simp only at h
  split at h
  ·obtain⟨_,_,h⟩:=h
   injection h with _ h;rw[←h];exact .refl _
  obtain⟨_,_,_,h⟩:=h
  split at h
  ·rename_i s' cW
   exact key [] _ True _ s' cW h
  exact h.elim
def vG (P:Program) (n:Nat) (ops:List Oper) (o:Oper) (s:St) (K:T→List AO→Prop):Prop:=
 ∀ (st:St),st.l=s.l→(∀ t∈o5 ops o,get st.t t=get s.t t)→∀ (w0:World) (I0:aC) (a:Act) (w:World) (Q:Exit→Act→World→Prop) (Kn:Act→World→Prop),Rel w0 I0 n st a w →
  (∀ u l' a' w',K u l'→(C2 o=true→eM s.l l')→Rel w0 I0 n ⟨bq st.t o.dst u,l'⟩ a' w'→Kn a' w') →
  if Region.wanted o (yielded ops.toArray a.tmps)=true then o.wpIn dB 0 P a w Kn Q else(∀ f,o.about P w a.eval=some f→dB.fn f)∧Kn (a.put o.dst undef) w
section
variable {P:Program} {V:Env} {w0:World} {I0:aC} {n:Nat} {md:Way} {ops:List Oper} {Q:Exit→Act→World→Prop} {K:St→Prop}
theorem vG.mono {o:Oper} {s:St} {K K':T→List AO→Prop} (h:vG P n ops o s K) (hk:∀ u l',K u l'→K' u l'):vG P n ops o s K':=
 fun st hl ha w0 I0 a w Q Kn hr hK=>h st hl ha w0 I0 a w Q Kn hr fun u l' a' w' k=>hK u l' a' w' (hk u l' k)
theorem amg (hV:bO P V) {o:Oper} {r:List Oper} {s:St} (h:bu V n ops md (o::r) s K):vG P n ops o s fun u l'=>bu V n ops md r ⟨bq s.t o.dst u,l'⟩ K:=by
 intro st hl ha w0 I0 a w Q Kn aq hK
 obtain⟨u,l',Bf,h'⟩:=afO (st:=st) h hl ha
 refine K0 hV aq Bf fun q a' w' hq oE=>?_
 simp only[bu] at hq
 subst hq
 exact hK u l' a' w' h' (fun hk=>hl▸aoB (st:=st) hk Bf) oE
def vN (ops:List Oper) (rem:List Nat) (i:Nat):Bool:=match ops[i]? with | some o=>rem.all fun k=> !tC ops 8 o k | none=>false
def RunT (P:Program) (n:Nat) (ops:List Oper):Nat→List Nat→St→(St→Prop)→Prop
 | 0,rem,s,K=>rem=[]∧K s
 | f+1,rem,s,K=>(rem=[]→K s)∧∀ i∈rem,vN ops rem i=true→∀ o,ops[i]?=some o→vG P n ops o s fun u l'=>RunT P n ops f (rem.erase i) ⟨bq s.t o.dst u,l'⟩ K
def y7 (ops:List Oper):Nat→List Nat→List (List Nat)
 | 0,_=>[[]]
 | f+1,rem=>if rem.isEmpty then [[]] else rem.flatMap fun i=>if vN ops rem i then(y7 ops f (rem.erase i)).map (i :: ·) else []
def BB (ops:List Oper):Nat→List Nat→Bool
 | 0,rem=>rem.isEmpty
 | f+1,rem=>rem.isEmpty||(rem.any (fun i=>vN ops rem i)&&rem.all fun i=> !vN ops rem i||BB ops f (rem.erase i))
def wq (ops:List Oper) (p:List Nat):List Oper:=p.filterMap fun i=>ops[i]?
theorem aeX {ops:List Oper}:∀ {f:Nat} {rem:List Nat},BB ops f rem=true→∃ p,p∈y7 ops f rem
 | 0,_,_=>⟨[],by simp[y7]⟩
 | f+1,rem,h=>by
  unfold BB at h
  rw[Bool.or_eq_true,Bool.and_eq_true] at h
  unfold y7
  by_cases he:rem.isEmpty=true
  ·rw[if_pos he];exact⟨[],by simp⟩
  rw[if_neg he]
  obtain⟨h1,h2⟩:=h.resolve_left he
  obtain⟨i,hi,fb⟩:=List.any_eq_true.1 h1
  have h3:=List.all_eq_true.1 h2 i hi
  rw[fb] at h3
  obtain⟨p,hp⟩:=aeX (by simpa using h3)
  exact⟨i::p,List.mem_flatMap.2 ⟨i,hi,by rw[if_pos fb];exact List.mem_map_of_mem hp⟩⟩
theorem aoz {o:Oper} {s:St} {α:Type} {L:List α} {Qs:α→St→Prop} (h0:∃ x,x∈L) (h:∀ x∈L,bu V n ops md [o] s (Qs x)):bu V n ops md [o] s fun s'=>∀ x∈L,Qs x s':=by
 obtain⟨x0,CS⟩:=h0
 have hh:=h x0 CS
 simp only[bu] at h hh ⊢
 cases hg:dU ops s.t o.guard with
 | none=>simp only[hg] at hh
 | some pc=>
  simp only[hg] at h hh ⊢
  cases md with
  | none=>
   simp only at h hh ⊢
   refine⟨hh.1,hh.2.1,?_⟩
   cases ha:after s o.dst pc ⟨(dz V pc s o).t,(dz V pc s o).bI,True⟩ with
   | none=>simp only[ha] at hh;exact hh.2.2.elim
   | some s'=>
    simp only[ha] at h ⊢
    exact fun x hx=>(h x hx).2.2
  | some sk=>
   simp only at h hh ⊢
   split at hh
   ·rename_i hs
    simp only[hs,if_true] at h ⊢
    exact⟨hh.1,hh.2.1,fun x hx=>(h x hx).2.2⟩
   rename_i hs
   simp only[hs,if_false,Bool.false_eq_true] at h ⊢
   refine⟨hh.1,hh.2.1,hh.2.2.1,?_⟩
   cases ha:after s o.dst [] ⟨(dz V [] s o).t,(dz V [] s o).bI,True⟩ with
   | none=>simp only[ha] at hh;exact hh.2.2.2.elim
   | some s'=>
    simp only[ha] at h ⊢
    exact fun x hx=>(h x hx).2.2.2
theorem aoA {o:Oper} {r:List Oper} {s:St}:bu V n ops md (o::r) s K→bu V n ops md [o] s fun s'=>bu V n ops md r s' K:=by
 intro h
 simp only[bu] at h ⊢
 exact h
theorem RunT.ajB (hV:bO P V):∀ (f:Nat) (rem:List Nat) (s:St),BB ops f rem=true→(∀ p∈y7 ops f rem,bu V n ops md (wq ops p) s K)→RunT P n ops f rem s K
 | 0,rem,s,h0,h=>⟨by simpa [BB] using h0,by simpa [y7,wq,bu] using h⟩
 | f+1,rem,s,h0,h=>by
  refine⟨fun he=>?_,fun i hi fb o ho=>?_⟩
  ·subst he
   simpa [y7,wq,bu] using h
  have ba:rem.isEmpty=false:=by cases rem;cases hi;rfl
  have ht:BB ops f (rem.erase i)=true:=by
   unfold BB at h0
   rw[ba,Bool.false_or,Bool.and_eq_true] at h0
   have:=List.all_eq_true.1 h0.2 i hi
   rw[fb] at this;simpa using this
  have key:bu V n ops md [o] s fun s'=>∀ p∈y7 ops f (rem.erase i),bu V n ops md (wq ops p) s' K:=by
   refine aoz (aeX ht) fun p hp=>?_
   have:=h (i::p) (by
    unfold y7
    rw[ba]
    simp only[Bool.false_eq_true,if_false]
    exact List.mem_flatMap.2 ⟨i,hi,by rw[if_pos fb];exact List.mem_map_of_mem hp⟩)
   have e:wq ops (i::p)=o::wq ops p:=by simp[wq,ho]
   rw[e] at this
   exact aoA this
  refine(amg hV (r:=[]) key).mono fun u l' h'=>?_
  simp only[bu] at h'
  exact RunT.ajB hV f _ _ ht h'
structure aeR (w0:World) (I0:aC) (n:Nat) (B:Bool) (l0:List AO) (ops:List Oper) (F:List Nat) (rs:List Rec) (s:St) (listed:Array Bool) (a:Act) (w:World):Prop where
 size:a.tmps.size=n
 rel:∃ I m,aI w0 I0 w I m s.l∧iS w0.heap.size I a.defers∧∀ k,k∉ed ops F listed→aw I m s.l (a.tmps.getD k undef) (get s.t k)
 fl:∀ (f:Nat) o x,f∈F→listed.getD f false=false→ops[f]?=some o→rs[f]?=some x→(∀ t∈o5 ops o,get s.t t=get x.tm t)∧∀ d,o.dst=some d→get s.t d=x.out
 vars:(B=true∨eM l0 s.l)∨∀ f∈F,listed.getD f false=true
theorem amp (hV:bO P V) (hK:∀ s a w,K s→Rel w0 I0 n s a w→Q .normal a w) {n1:Nat} {F:List Nat} (fM:ud ops=true) (cG:qC ops n1=true) (bS:wY ops n1 F=true) (eg:n1≤ops.length) {s0:St} {rs:List Rec} {B:Bool} (oC:∀ (f:Nat) o x,f∈F→ops[f]?=some o→rs[f]?=some x→xP V B s0.l o x) (ph:∀ (i:Nat) o,n1≤i→ops[i]?=some o→C2 o=true∨∀ f∈F,tC ops 8 o f=true) 
  (cD:oP V n ops s0.l (ops.take n1) 0 s0.t 0 rs) :
  ∀ (fuel ft:Nat) (rem:List Nat) (s:St) (a:Act) (w:World) (listed:Array Bool),listed.size=ops.length→oq ops.length listed=fuel→(∀ i,i < ops.length→i∉F→listed.getD i false = !rem.contains i)→rem.Nodup→(∀ i∈rem,n1≤i∧i < ops.length)→Cc ops listed→aeR w0 I0 n B s0.l ops F rs s listed a w→RunT P n ops ft rem s K →
   wpAnyIn dB 0 P .any ops.toArray Q fuel listed a w:=by
 have qu:rs.length=n1:=by rw[cD.len];simp;omega
 intro fuel
 induction fuel with
 | zero=>
  intro ft rem s a w listed hs hu hl gj CQ fW hinv h
  have bL:∀ i,i < ops.length→listed.getD i false=true:=by
   intro i hi
   have:=List.length_eq_zero_iff.1 hu
   have:=(List.filter_eq_nil_iff.1 this) i (List.mem_range.2 hi)
   simpa using this
  have zE:rem=[]:=by
   cases rem with
   | nil=>rfl
   | cons j r=>
    have hj:=CQ j (by simp)
    have HT:j∉F:=fun hF=>by have:=(oQ bS hF).1;omega
    have:=hl j hj.2 HT
    rw[bL j hj.2] at this;simp at this
  have h:K s:=by
   cases ft with
   | zero=>exact h.2
   | succ ft=>exact h.1 zE
  obtain⟨h1,⟨I,m,h3,h2,h4⟩,h5,_⟩:=hinv
  refine⟨?_,hK s a w h ⟨h1,I,m,h3,h2,fun k=>h4 k fun hk=>?_⟩⟩
  ·refine List.eq_nil_iff_forall_not_mem.2 fun i hi=>?_
   have aN:=yR hi
   have:=((ug hs aN (List.getElem?_eq_getElem aN)).1 hi).1
   rw[bL i aN] at this;cases this
  obtain⟨f,o,q1,q2,q3,_⟩:=tw.1 hk
  rw[bL f (List.getElem?_eq_some_iff.1 q3).1] at q2;cases q2
 | succ fuel ih=>
  intro ft rem s a w listed hs hu hl gj CQ fW hinv h
  have A9:∃ i,i < ops.length∧listed.getD i false=false∧∀ k,k < i→listed.getD k false=true:=by
   have hex:∃ i,i < ops.length∧listed.getD i false=false:=by
    refine Classical.byContradiction fun hh=>?_
    have:oq ops.length listed=0:=by
     unfold oq
     rw[List.filter_eq_nil_iff.2 fun i hi=>by
      have hi:=List.mem_range.1 hi
      cases hb:listed.getD i false with
      | true=>simp
      | false=>exact absurd ⟨i,hi,hb⟩ hh]
     rfl
    omega
   obtain⟨i,hi⟩:=hex
   induction i using Nat.strongRecOn with
   | ind i Bk=>
    by_cases hh:∃ k,k < i∧listed.getD k false=false
    ·obtain⟨k,hk,hb⟩:=hh
     exact Bk k hk ⟨by omega,hb⟩
    refine⟨i,hi.1,hi.2,fun k hk=>?_⟩
    cases hb:listed.getD k false with
    | true=>rfl
    | false=>exact absurd ⟨k,hk,hb⟩ hh
  obtain⟨i0,Q7,pO,yk⟩:=A9
  have uW:ops[i0]?=some ops[i0]:=List.getElem?_eq_getElem (by omega)
  have uY:i0∈Region.ready .any ops.toArray listed:=(ug hs (by omega) uW).2 ⟨pO,fun k hk=>yk k (Iu fM uW k hk)⟩
  refine⟨fun h0=>(by rw[h0] at uY;cases uY),fun i hi=>?_⟩
  have aN:=yR hi
  have cg:ops[i]?=some ops[i]:=List.getElem?_eq_getElem aN
  obtain⟨h1,h2⟩:=(ug hs aN cg).1 hi
  have dm:oq ops.length (listed.setIfInBounds i true)=fuel:=by have:=OP hs aN h1;omega
  have ef:∀ k,(listed.setIfInBounds i true).getD k false=if k=i then true else listed.getD k false:=fun k=>yb hs aN
  generalize ops[i]=o at cg h2
  unfold wpOpIn
  have Xv:ops.toArray[i]?=some o:=by simpa using cg
  simp only[Xv]
  obtain⟨aS,⟨I,m,hw,dZ,ht⟩,A4,qx⟩:=hinv
  by_cases oV:i∈F
  ·
   obtain⟨iJ,yp⟩:=oQ bS oV
   obtain⟨HS,vV⟩:=yp o cg
   have hx:rs[i]?=some rs[i]:=List.getElem?_eq_getElem (by omega)
   generalize rs[i]=x at hx
   obtain⟨oX,rb,sZ⟩:=cD.at_ i o x (by rw[List.getElem?_take,if_pos iJ];exact cg) hx
   obtain⟨⟨qc,hg,xf⟩,LQ,dt,af,eQ,fA,Q6⟩:=oX
   have eG:x.pc=[]:=LQ HS
   obtain⟨dj,XN⟩:=oC i o x oV cg hx
   obtain⟨oA,XI⟩:=A4 i o x oV h1 cg hx
   have u0:∀ t,t∈o5 ops o→aw I m s.l (a.tmps.getD t undef) (get x.tm t):=by
    intro t qw
    rw[←oA t qw]
    refine ht t fun hp=>?_
    obtain⟨f,q,q1,q2,q3,q4⟩:=tw.1 hp
    have:=(pW cG iJ (oQ bS q1).1 cg q3 q4).2 qw
    rw[h2 f this.2] at q2;cases q2
   have sY:∀ y∈o.op.operands,aw I m s.l (a.eval y) (bd x.tm y):=by
    intro y hy
    cases y with
    | tmp t=>exact u0 t (List.mem_append_left _ (List.mem_filterMap.2 ⟨.tmp t,by simpa using hy,rfl⟩))
    | const v=>exact Hs v
    | global g=>exact Hz hw.sat.dS g
    | func f=>exact .d _ _ (.fn f)
   have fX:=Jz (ops:=ops) (a:=a) (fun j b d tY hd=>u0 d (List.mem_append_right _ (by rw[tY];simp only;rw[hd];simp))) hg
   have fX:=fX.trans xf
   have hp:holds x.pc:=by rw[eG];trivial
   rw[if_pos (fX.2 hp)]
   obtain⟨qs,Ba⟩:=af hp
   have vY:∀ y∈o.op.operands,aw I m s.l (a.eval y) (strip x.pc (bd x.tm y)).1:=fun y hy=>
    Ju (sY y hy) hp (Fz Ba _ (List.mem_map.2 ⟨y,by simpa using hy,rfl⟩))
   have ate:B=true∨eM s0.l s.l:=qx.resolve_right (fun hh=>by rw[hh i oV] at h1;cases h1)
   have EZ:=XN eG qs s.l ate
   have xc:=Hv (show(evalOp V (fun y=>(strip x.pc (bd x.tm y)).1) s.l 0 o).ob by rw[EZ];exact qs)
   have ir:=AK (nid:=0) hV hw (jm.refl s.l) vY (by rw[EZ];exact qs)
   rw[EZ] at ir
   unfold cy at ir
   simp only at ir
   refine cz.wpIn xc (ir.mono fun v w' ⟨J,hle,dc,hv⟩=>?_)
   refine ih ft rem s _ w' _ (by simp[hs]) dm (fun k hk yt=>by rw[ef k,if_neg (show ¬ k=i from fun e=>yt (e▸oV))];exact hl k hk yt) gj CQ (fW.step cg h2 ef) ?_ h
   refine⟨by cases o.dst<;>simp[Act.put,aS],⟨J,m,dc,dZ.put hle.eR,fun k hk=>?_⟩,fun f q y hf sa hq hy=>?_,?_⟩
   ·by_cases r7:o.dst=some k
    ·have yn:k < n:=by rw[r7] at eQ;simpa [cR] using eQ
     have:(a.put o.dst v).tmps.getD k undef=v:=by simp[r7,Act.put,Array.getD_eq_getD_getElem?,aS,yn]
     rw[this,XI k r7]
     unfold Rec.out;rw[if_pos eG];exact hv
    have:(a.put o.dst v).tmps.getD k undef=a.tmps.getD k undef:=by
     cases qt:o.dst with
     | none=>rfl
     | some d'=>
      have:d'≠k:=fun e=>r7 (by rw[qt,e])
      simp[Act.put,Array.getD_eq_getD_getElem?,this]
    rw[this]
    refine(ht k fun X5=>hk ?_).mono hle
    obtain⟨f,q,q1,q2,q3,q4⟩:=tw.1 X5
    refine tw.2 ⟨f,q,q1,?_,q3,q4⟩
    rw[ef f,if_neg];· exact q2
    rintro rfl;rw[cg] at q3;injection q3 with q3;subst q3;exact r7 q4
   ·have ba:f≠i:=by rintro rfl;rw[ef f,if_pos rfl] at sa;cases sa
    exact A4 f q y hf (by rw[ef f,if_neg ba] at sa;exact sa) hq hy
   exact qx.imp id fun hh f hf=>by rw[ef f];split;rfl;exact hh f hf
  have iJ:i∈rem:=by
   have uN:=h1
   rw[hl i aN oV] at uN
   simpa using uN
  have hj:n1≤i:=(CQ i iJ).1
  have fb:vN ops rem i=true:=by
   unfold vN
   rw[cg]
   simp only[List.all_eq_true,Bool.not_eq_true']
   intro k hk
   cases hw:tC ops 8 o k with
   | false=>rfl
   | true=>
    have js:=Jy fW 8 o k h2 hw
    obtain⟨LU,HU⟩:=CQ k hk
    have yt:k∉F:=fun hF=>by have:=(oQ bS hF).1;omega
    have:=hl k HU yt
    rw[js] at this
    simp[hk] at this
  obtain⟨ft,rfl⟩:∃ q,ft=q+1:=by
   cases ft with
   | zero=>have:=h.1;rw[this] at iJ;cases iJ
   | succ q=>exact⟨q,rfl⟩
  have h:=h.2 i iJ fb o cg
  let st:St:=⟨(ed ops F listed).map (fun d=>(d,T.undef))++s.t,s.l⟩
  have cB:∀ k,k∉ed ops F listed→get st.t k=get s.t k:=fun k hk=>by simp only[st];rw[La,if_neg hk]
  have Yg:Rel w0 I0 n st a w:=by
   refine⟨aS,I,m,hw,dZ,fun k=>?_⟩
   by_cases hk:k∈ed ops F listed
   ·simp only[st];rw[La,if_pos hk];exact .undef _
   rw[cB k hk];exact ht k hk
  have Xu:∀ t∈o5 ops o,get st.t t=get s.t t:=fun t qw=>cB t fun hp=>by
   obtain⟨f,q,q1,q2,q3,q4⟩:=tw.1 hp
   have:=((oQ bS q1).2 q q3).2 i o hj cg
   have:=this.2 t q4 qw
   rw[h2 f this] at q2;cases q2
  refine h st rfl Xu w0 I0 a w Q _ Yg fun u l' a' w' h hv oE=>?_
  have Ys:(B=true∨eM s0.l l')∨∀ f∈F,(listed.setIfInBounds i true).getD f false=true:=by
   rcases ph i o hj cg with ph | ph
   ·rcases qx with qx | hh
    ·rcases qx with hB | qx
     ·exact .inl (.inl hB)
     exact .inl (.inr (qx.trans (hv ph)))
    exact .inr fun f hf=>by rw[ef f];split;rfl;exact hh f hf
   exact .inr fun f hf=>by rw[ef f];split;rfl;exact Jy fW 8 o f h2 (ph f hf)
  obtain⟨r1,J,m',r3,r2,r4⟩:=oE
  have Bc:∀ k,k∈ed ops F (listed.setIfInBounds i true)↔k∈ed ops F listed:=fun k=>by
   rw[tw,tw]
   constructor
   ·rintro⟨f,q,q1,q2,q3,q4⟩
    exact⟨f,q,q1,by rw[ef f,if_neg (show ¬ f=i from fun e=>oV (e▸q1))] at q2;exact q2,q3,q4⟩
   rintro⟨f,q,q1,q2,q3,q4⟩
   exact⟨f,q,q1,by rw[ef f,if_neg (show ¬ f=i from fun e=>oV (e▸q1))];exact q2,q3,q4⟩
  refine ih ft (rem.erase i) ⟨bq s.t o.dst u,l'⟩ a' w' _ (by simp[hs]) dm (fun k hk yt=>by
   rw[ef k,hl k hk yt]
   by_cases e:k=i
   ·subst e
    have:k∉rem.erase k:=fun hh=>(List.Nodup.mem_erase_iff gj).1 hh |>.1 rfl
    simp[this]
   have:(k∈rem.erase i)↔k∈rem:=List.mem_erase_of_ne e
   rw[if_neg e]
   congr 1
   rw[Bool.eq_iff_iff];simp[this]) (gj.erase i) (fun k hk=>CQ k (List.mem_of_mem_erase hk)) (fW.step cg h2 ef) ⟨r1,⟨J,m',r3,r2,fun k hk=>?_⟩,fun f q y hf sa hq hy=>?_,Ys⟩ h
  ·have:=r4 k
   have jr:k∉ed ops F listed:=fun e=>hk ((Bc k).2 e)
   have e:get (bq st.t o.dst u) k=get (bq s.t o.dst u) k:=by
    cases o.dst with
    | none=>exact cB k jr
    | some d=>
     simp only[bq,get]
     split
     ·rfl
     exact cB k jr
   show aw J m' l' _ (get (bq s.t o.dst u) k)
   rw[←e];exact this
  have EU:listed.getD f false=false:=by rw[ef f,if_neg (show ¬ f=i from fun e=>oV (e▸hf))] at sa;exact sa
  obtain⟨g1,g2⟩:=A4 f q y hf EU hq hy
  have vV:=((oQ bS hf).2 q hq).2 i o hj cg
  have vV:=And.intro (vV.1.resolve_left (fun hw=>by rw[h2 f hw] at EU;cases EU)) vV.2
  have zF:∀ t,o.dst≠some t→get (bq s.t o.dst u) t=get s.t t:=fun t ba=>by
   cases qt:o.dst with
   | none=>rfl
   | some d=>simp only[bq,get];rw[if_neg (fun e=>ba (by rw[qt,e]))]
  refine⟨fun t qw=>?_,fun d hd=>?_⟩
  ·exact(zF t (fun e=>(vV.1 t e).1 qw)).trans (g1 t qw)
  exact(zF d (fun e=>(vV.1 d e).2 hd)).trans (g2 d hd)
theorem amr {n1:Nat} {F:List Nat} (cG:qC ops n1=true) (bS:wY ops n1 F=true) (eg:n1≤ops.length) {s0:St} {rs:List Rec} {B:Bool} (oC:∀ (f:Nat) o x,f∈F→ops[f]?=some o→rs[f]?=some x→xP V B s0.l o x) (qu:rs.length=n1) (cD:oP V n ops s0.l (ops.take n1) 0 s0.t 0 rs) {listed:Array Bool} {a:Act} {w:World} (hinv:Inv w0 I0 n n1 ops s0 rs listed a w) (bL:∀ i,i < n1→i∉F→listed.getD i false=true) :
  aeR w0 I0 n B s0.l ops F rs ⟨fF s0.t (ops.take n1) rs,s0.l++(bp 0 rs).map (·.2)⟩ listed a w:=by
 obtain⟨h1,I,m,h3,h2,h4,h5⟩:=hinv
 have X1:∀ p∈bp 0 rs,p.1∉F:=by
  intro p hp hF
  obtain⟨i,x,e1,e2,e3⟩:=IB rs 0 p hp
  have hi:p.1=i:=by omega
  rw[hi] at hF
  have iJ:=(oQ bS hF).1
  have ho:ops[i]?=some ops[i]:=List.getElem?_eq_getElem (by omega)
  have:=(oC i _ x hF ho e2).1
  rw[e3] at this;cases this
 have hL:cp s0.l (bp 0 rs) (fun i=>listed.getD i false)=s0.l++(bp 0 rs).map (·.2):=by
  unfold cp
  congr 1
  apply List.map_congr_left
  intro p hp
  have:=(zY rs 0).1 p hp
  rw[if_pos (bL p.1 (by omega) (X1 p hp))]
 rw[hL] at h3 h4 h5
 have j7:∀ (i:Nat) o x k,i < n1→ops[i]?=some o→rs[i]?=some x→o.dst=some k→get (fF s0.t (ops.take n1) rs) k=x.out:=fun i o x k hi ho hx hd=>
  zq (ops.take n1) rs s0.t k i o x (by rw[List.getElem?_take,if_pos hi];exact ho) hx hd (fun j q hq hj=>by
   have tZ:j < n1:=by have:=(List.getElem?_eq_some_iff.1 hq).1;simp at this;omega
   rw[List.getElem?_take,if_pos tZ] at hq
   exact(pW cG tZ hi hq ho hd).1 hj)
 have L3:∀ k,(¬ ∃ i o,i < n1∧ops[i]?=some o∧o.dst=some k)→get (fF s0.t (ops.take n1) rs) k=get s0.t k:=fun k hk=>
  yc (ops.take n1) rs s0.t k (fun o ho hd=>hk (by
   obtain⟨i,hi,rfl⟩:=List.mem_iff_getElem.1 ho
   have gi:i < n1:=by simp at hi;omega
   exact⟨i,_,gi,by rw[List.getElem?_eq_getElem (by omega)],by simpa using hd⟩))
 refine⟨h1,⟨I,m,h3,h2,fun k X3=>?_⟩,fun f o x hf sa ho hx=>⟨fun t qw=>?_,fun d hd=>?_⟩,.inl (.inr (.append _ _))⟩
 ·by_cases hk:∃ i o,i < n1∧ops[i]?=some o∧o.dst=some k
  ·obtain⟨i,o,hi,ho,hd⟩:=hk
   have hx:rs[i]?=some rs[i]:=List.getElem?_eq_getElem (by omega)
   have XT:listed.getD i false=true:=by
    cases hb:listed.getD i false with
    | true=>rfl
    | false=>
     have oV:i∈F:=Classical.byContradiction fun hF=>by rw[bL i hi hF] at hb;cases hb
     exact absurd (tw.2 ⟨i,o,oV,hb,ho,hd⟩) X3
   show aw I m _ _ (get (fF s0.t (ops.take n1) rs) k)
   rw[j7 i o _ k hi ho hx hd]
   exact h4 i o _ k hi ho hx XT hd
  show aw I m _ _ (get (fF s0.t (ops.take n1) rs) k)
  rw[L3 k hk]
  exact h5 k (fun i o hi ho _ hd=>hk ⟨i,o,hi,ho,hd⟩)
 ·
  obtain⟨iJ,yp⟩:=oQ bS hf
  obtain⟨_,rb,_⟩:=cD.at_ f o x (by rw[List.getElem?_take,if_pos iJ];exact ho) hx
  rw[rb,show(ops.take n1).take f=ops.take f by rw[List.take_take];congr 1;omega]
  show get (fF s0.t (ops.take n1) rs) t=_
  by_cases hk:∃ i o,i < n1∧ops[i]?=some o∧o.dst=some t
  ·obtain⟨i,q,hi,hq,hd⟩:=hk
   have Md:rs[i]?=some rs[i]:=List.getElem?_eq_getElem (by omega)
   rw[j7 i q _ t hi hq Md hd]
   obtain⟨ec,ET⟩:=(pW cG iJ hi ho hq hd).2 qw
   rw[zq (ops.take f) (rs.take f) s0.t t i q _ (by rw[List.getElem?_take,if_pos ec];exact hq) (by rw[List.getElem?_take,if_pos ec];exact Md) hd (fun k q' jt hk=>by
    have gP:k < f:=by have:=(List.getElem?_eq_some_iff.1 jt).1;simp at this;omega
    rw[List.getElem?_take,if_pos gP] at jt
    exact(pW cG (by omega) hi jt hq hd).1 hk)]
  rw[L3 t hk,yc (ops.take f) (rs.take f) s0.t t (fun q hq hd=>hk (by
   obtain⟨j,hj,rfl⟩:=List.mem_iff_getElem.1 hq
   have gO:j < f:=by simp at hj;omega
   exact⟨j,_,by omega,by rw[List.getElem?_eq_getElem (by omega)],by simpa using hd⟩))]
 exact j7 f o x d (oQ bS hf).1 ho hx hd
def wG (ops:List Oper) (n1:Nat):List Nat:=(List.range ops.length).drop n1
theorem MO {ops:List Oper} {n1 i:Nat}:i∈wG ops n1↔n1≤i∧i < ops.length:=by
 unfold wG
 constructor
 ·intro h
  obtain⟨j,hj,rfl⟩:=List.mem_iff_getElem.1 h
  simp at hj ⊢;omega
 rintro⟨h1,h2⟩
 refine List.mem_iff_getElem.2 ⟨i - n1,by simp;omega,?_⟩
 simp;omega
theorem amo {ops:List Oper} {n1:Nat}:(wG ops n1).Nodup:=List.Nodup.sublist (List.drop_sublist _ _) List.nodup_range
theorem axS (hV:bO P V) (hK:∀ s a w,K s→Rel w0 I0 n s a w→Q .normal a w) {n1:Nat} {F:List Nat} (fM:ud ops=true) (iu:∀ (i:Nat) o,n1≤i→ops[i]?=some o→∀ j,j < n1→j∉F→tC ops 8 o j=true) (bS:wY ops n1 F=true) (cG:qC ops n1=true) (eg:n1≤ops.length) {s0:St} {rs:List Rec} {B:Bool} (oC:∀ (f:Nat) o x,f∈F→ops[f]?=some o→rs[f]?=some x→xP V B s0.l o x) (ph:∀ (i:Nat) o,n1≤i→ops[i]?=some o→C2 o=true∨∀ f∈F,tC ops 8 o f=true) 
  (cD:oP V n ops s0.l (ops.take n1) 0 s0.t 0 rs) {ft:Nat} (cM:RunT P n ops ft (wG ops n1) ⟨fF s0.t (ops.take n1) rs,s0.l++(bp 0 rs).map (·.2)⟩ K) :
  ∀ (fuel:Nat) (a:Act) (w:World) (listed:Array Bool),listed.size=ops.length→oq ops.length listed=fuel→(∀ i,n1≤i→i < ops.length→listed.getD i false=false)→Cc ops listed→Inv w0 I0 n n1 ops s0 rs listed a w →
   wpAnyIn dB 0 P .any ops.toArray Q fuel listed a w:=by
 have qu:rs.length=n1:=by rw[cD.len];simp;omega
 have jc:∀ i,i < n1→(ops.take n1)[i]?=ops[i]?:=fun i hi=>by rw[List.getElem?_take,if_pos hi]
 intro fuel
 induction fuel with
 | zero=>
  intro a w listed hs hu ke fW hinv
  have bL:∀ i,i < ops.length→listed.getD i false=true:=by
   intro i hi
   have:=List.length_eq_zero_iff.1 hu
   have:=(List.filter_eq_nil_iff.1 this) i (List.mem_range.2 hi)
   simpa using this
  have hN:n1=ops.length:=by
   rcases Nat.lt_or_ge n1 ops.length with h | h
   ·have:=ke n1 (Nat.le_refl _) h;rw[bL n1 h] at this;cases this
   omega
  exact amp hV hK fM cG bS eg oC ph cD 0 ft _ _ a w listed hs hu (fun i hi _=>by rw[bL i hi];symm;rw[Bool.not_eq_true',Bool.eq_false_iff];simp only[ne_eq,List.contains_iff_mem];intro hm;have:=(MO.1 hm);omega) amo (fun i hi=>MO.1 hi) fW (amr cG bS eg oC qu cD hinv (fun i hi _=>bL i (by omega))) cM
 | succ fuel ih=>
  intro a w listed hs hu ke fW hinv
  by_cases bL:∀ i,i < n1→i∉F→listed.getD i false=true
  ·have hl:∀ i,i < ops.length→i∉F→listed.getD i false = !(wG ops n1).contains i:=by
    intro i hi hF
    by_cases h:i < n1
    ·rw[bL i h hF];symm;rw[Bool.not_eq_true',Bool.eq_false_iff];simp only[ne_eq,List.contains_iff_mem];intro hm;have:=(MO.1 hm);omega
    rw[ke i (by omega) hi];symm;rw[Bool.not_eq_false'];exact List.contains_iff_mem.2 (MO.2 ⟨by omega,hi⟩)
   exact amp hV hK fM cG bS eg oC ph cD (fuel+1) ft _ _ a w listed hs hu hl amo (fun i hi=>MO.1 hi) fW (amr cG bS eg oC qu cD hinv bL) cM
  obtain⟨aS,I,m,hw,dZ,yl,CJ⟩:=hinv
  have XF:∃ i,i < n1∧i∉F∧listed.getD i false=false:=by
   refine Classical.byContradiction fun h=>bL fun i hi hF=>?_
   cases hb:listed.getD i false with
   | true=>rfl
   | false=>exact absurd ⟨i,hi,hF,hb⟩ h
  obtain⟨i1,Q8,Xq,tW⟩:=XF
  have hex:∃ i,i < n1∧listed.getD i false=false:=⟨i1,Q8,tW⟩
  have A9:∃ i,i < n1∧listed.getD i false=false∧∀ j,j < i→listed.getD j false=true:=by
   obtain⟨i,hi⟩:=hex
   induction i using Nat.strongRecOn with
   | ind i Bk=>
    by_cases h:∃ j,j < i∧listed.getD j false=false
    ·obtain⟨j,hj,hb⟩:=h
     exact Bk j hj ⟨by omega,hb⟩
    refine⟨i,hi.1,hi.2,fun j hj=>?_⟩
    cases hb:listed.getD j false with
    | true=>rfl
    | false=>exact absurd ⟨j,hj,hb⟩ h
  obtain⟨i0,Q7,pO,yk⟩:=A9
  have uW:ops[i0]?=some ops[i0]:=List.getElem?_eq_getElem (by omega)
  have uY:i0∈Region.ready .any ops.toArray listed:=(ug hs (by omega) uW).2 ⟨pO,fun j hj=>yk j (Iu fM uW j hj)⟩
  refine⟨fun h0=>(by rw[h0] at uY;cases uY),fun i hi=>?_⟩
  have aN:=yR hi
  have cg:ops[i]?=some ops[i]:=List.getElem?_eq_getElem aN
  obtain⟨h1,h2⟩:=(ug hs aN cg).1 hi
  have A7:i < n1:=by
   rcases Nat.lt_or_ge i n1 with h | h
   ·exact h
   have:=Jy fW 8 _ i1 h2 (iu i _ h cg i1 Q8 Xq);rw[tW] at this;cases this
  generalize ops[i]=o at cg h2
  have hx:rs[i]?=some rs[i]:=List.getElem?_eq_getElem (by omega)
  generalize rs[i]=x at hx
  obtain⟨oX,rb,sZ⟩:=cD.at_ i o x (by rw[jc i A7];exact cg) hx
  obtain⟨⟨qc,hg,xf⟩,LQ,dt,af,eQ,fA,Q6⟩:=oX
  unfold wpOpIn
  have:ops.toArray[i]?=some o:=by simpa using cg
  simp only[this]
  have u0:∀ t,t∈o5 ops o→aw I m (cp s0.l (bp 0 rs) fun i=>listed.getD i false) (a.tmps.getD t undef) (get x.tm t):=by
   intro t ht
   rw[rb]
   rw[show(ops.take n1).take i=ops.take i by rw[List.take_take];congr 1;omega]
   by_cases hk:∃ j q,j < n1∧ops[j]?=some q∧q.dst=some t
   ·obtain⟨j,q,hj,hq,hd⟩:=hk
    obtain⟨ec,ET⟩:=(pW cG A7 hj cg hq hd).2 ht
    have wa:rs[j]?=some rs[j]:=List.getElem?_eq_getElem (by omega)
    rw[zq (ops.take i) (rs.take i) s0.t t j q _ (by rw[List.getElem?_take,if_pos ec];exact hq) (by rw[List.getElem?_take,if_pos ec];exact wa) hd (fun k q' jt hk=>by
     have gP:k < i:=by have:=(List.getElem?_eq_some_iff.1 jt).1;simp at this;omega
     rw[List.getElem?_take,if_pos gP] at jt
     exact(pW cG (by omega) hj jt hq hd).1 hk)]
    exact yl j q _ t hj hq wa (h2 j ET) hd
   rw[yc (ops.take i) (rs.take i) s0.t t (fun q hq hd=>hk (by
    obtain⟨j,hj,rfl⟩:=List.mem_iff_getElem.1 hq
    have gO:j < i:=by simp at hj;omega
    exact⟨j,_,by omega,by rw[List.getElem?_eq_getElem (by omega)],by simpa using hd⟩))]
   exact CJ t (fun j q hj hq _ hd=>hk ⟨j,q,hj,hq,hd⟩)
  have sY:∀ y∈o.op.operands,aw I m (cp s0.l (bp 0 rs) fun i=>listed.getD i false) (a.eval y) (bd x.tm y):=by
   intro y hy
   cases y with
   | tmp t=>exact u0 t (List.mem_append_left _ (List.mem_filterMap.2 ⟨.tmp t,by simpa using hy,rfl⟩))
   | const v=>exact Hs v
   | global g=>exact Hz hw.sat.dS g
   | func f=>exact .d _ _ (.fn f)
  have fX:=Jz (ops:=ops) (a:=a) (fun j b d tY hd=>u0 d (List.mem_append_right _ (by rw[tY];simp only;rw[hd];simp))) hg
  have fX:=fX.trans xf
  have dm:oq ops.length (listed.setIfInBounds i true)=fuel:=by have:=OP hs aN h1;omega
  have L9:∀ k,n1≤k→k < ops.length→(listed.setIfInBounds i true).getD k false=false:=fun k hk js=>by
   rw[yb hs aN,if_neg (by omega)];exact ke k hk js
  have ef:∀ j,(listed.setIfInBounds i true).getD j false=if j=i then true else listed.getD j false:=fun j=>yb hs aN
  have next:∀ (J:aC) (m':Nat→Value) (v:Value) (w':World),Le I m (cp s0.l (bp 0 rs) fun i=>listed.getD i false) J m' (cp s0.l (bp 0 rs) fun k=>(listed.setIfInBounds i true).getD k false) →
    aI w0 I0 w' J m' (cp s0.l (bp 0 rs) fun k=>(listed.setIfInBounds i true).getD k false)→aw J m' (cp s0.l (bp 0 rs) fun k=>(listed.setIfInBounds i true).getD k false) v x.out →
    wpAnyIn dB 0 P .any ops.toArray Q fuel (listed.setIfInBounds i true) (a.put o.dst v) w':=by
   intro J m' v w' hle dc hv
   refine ih _ _ _ (by simp[hs]) dm L9 (fW.step cg h2 ef) ⟨by cases o.dst<;>simp[Act.put,aS],J,m',dc,dZ.put hle.eR,fun j q y d hj hq hy hl hd=>?_,fun d hd=>?_⟩
   ·by_cases ec:j=i
    ·subst ec
     rw[cg] at hq;injection hq with hq;subst hq
     rw[hx] at hy;injection hy with hy;subst hy
     have yn:d < n:=by rw[hd] at eQ;simpa [cR] using eQ
     have:(a.put o.dst v).tmps.getD d undef=v:=by simp[hd,Act.put,Array.getD_eq_getD_getElem?,aS,yn]
     rw[this];exact hv
    have LX:listed.getD j false=true:=by rw[ef j,if_neg ec] at hl;exact hl
    have ba:o.dst≠some d:=(pW cG A7 hj cg hq hd).1 (Ne.symm ec)
    have:(a.put o.dst v).tmps.getD d undef=a.tmps.getD d undef:=by
     cases qt:o.dst with
     | none=>rfl
     | some d'=>
      have:d'≠d:=fun e=>ba (by rw[qt,e])
      simp[Act.put,Array.getD_eq_getD_getElem?,this]
    rw[this];exact(yl j q y d hj hq hy LX hd).mono hle
   have ba:o.dst≠some d:=hd i o A7 cg (by rw[ef i,if_pos rfl])
   have:(a.put o.dst v).tmps.getD d undef=a.tmps.getD d undef:=by
    cases qt:o.dst with
    | none=>rfl
    | some d'=>
     have:d'≠d:=fun e=>ba (by rw[qt,e])
     simp[Act.put,Array.getD_eq_getD_getElem?,this]
   rw[this]
   exact(CJ d (fun j q hj hq hl=>hd j q hj hq (by rw[ef j];split<;>first | rfl | exact hl))).mono hle
  have sb:x.new=none→(cp s0.l (bp 0 rs) fun i=>listed.getD i false)=cp s0.l (bp 0 rs) fun k=>(listed.setIfInBounds i true).getD k false:=by
   intro dj
   refine aaE fun p hp=>?_
   rw[ef p.1,if_neg]
   intro he
   obtain⟨i',x',e1,e2,e3⟩:=IB rs 0 p hp
   have:i'=i:=by omega
   subst this
   rw[hx] at e2;injection e2 with e2;subst e2
   rw[dj] at e3;cases e3
  by_cases hp:holds x.pc
  ·rw[if_pos (fX.2 hp)]
   obtain⟨qs,Ba⟩:=af hp
   have dt:=dt hp
   have xc:=Hv (show(evalOp V (fun y=>(strip x.pc (bd x.tm y)).1) s0.l x.nid o).ob by rw[dt];exact qs)
   have vY:∀ y∈o.op.operands,aw I m (cp s0.l (bp 0 rs) fun i=>listed.getD i false) (a.eval y) (strip x.pc (bd x.tm y)).1:=fun y hy=>
    Ju (sY y hy) hp (Fz Ba _ (List.mem_map.2 ⟨y,by simpa using hy,rfl⟩))
   have ir:=AK (nid:=x.nid) hV hw (aaD (l0:=s0.l)) vY (by rw[dt];exact qs)
   rw[dt] at ir
   unfold cy at ir
   cases dj:x.new with
   | none=>
    simp only[dj] at ir
    refine cz.wpIn xc (ir.mono fun v w' ⟨J,hle,dc,hv⟩=>?_)
    rw[sb dj] at hle dc hv
    refine next J m v w' (by rw[sb dj];exact hle) dc ?_
    unfold Rec.out
    split
    ·exact hv
    exact .cond _ _ _ (fun _=>hv) (fun hn=>absurd hp hn)
   | some b=>
    simp only[dj] at ir
    have eG:x.pc=[]:=fA (by rw[dj];rfl)
    have cC:=(zY rs 0).2.1 i x b hx dj
    simp only[Nat.zero_add] at cC
    have A2:(cp s0.l (bp 0 rs) fun i=>listed.getD i false)[x.nid]?=some .dead:=by
     rw[sZ,Nat.add_zero]
     have:=SN (l0:=s0.l) (L:=fun i=>listed.getD i false) cC
     simp only[h1] at this
     simpa using this
    have j9:(cp s0.l (bp 0 rs) fun i=>listed.getD i false).set x.nid b=cp s0.l (bp 0 rs) fun k=>(listed.setIfInBounds i true).getD k false:=by
     rw[sZ,Nat.add_zero]
     exact aaF cC (fun q y hq hy=>(zY rs 0).2.2 q _ y _ hq cC hy) ef
    refine cz.wpIn xc ((ir A2).mono fun v w' ⟨m',hle,dc,hv⟩=>?_)
    rw[j9] at hle dc hv
    refine next I m' v w' hle dc ?_
    unfold Rec.out
    rw[if_pos eG];exact hv
  rw[if_neg (fun hh=>hp (fX.1 hh))]
  have eG:x.pc≠[]:=by intro e;rw[e] at hp;exact hp trivial
  have dj:x.new=none:=by
   cases yw:x.new with
   | none=>rfl
   | some b=>exact absurd (fA (by rw[yw];rfl)) eG
  have dc:=hw
  rw[sb dj] at dc
  refine⟨fun f _=>Aw f,next I m undef w (by rw[sb dj];exact .refl ..) dc ?_⟩
  unfold Rec.out
  rw[if_neg eG]
  exact .cond _ _ _ (fun h=>absurd h hp) (fun _=>rfl)
theorem aod (hV:bO P V) (hK:∀ s a w,K s→Rel w0 I0 n s a w→Q .normal a w) {s:St} {a:Act} {w:World} {n1:Nat} {F:List Nat} (fM:ud ops=true) (iu:∀ (i:Nat) o,n1≤i→ops[i]?=some o→∀ j,j < n1→j∉F→tC ops 8 o j=true) (bS:wY ops n1 F=true) (cG:qC ops n1=true) (eg:n1≤ops.length)
  (aq:Rel w0 I0 n s a w) {rs:List Rec} {B:Bool} (oC:∀ (f:Nat) o x,f∈F→ops[f]?=some o→rs[f]?=some x→xP V B s.l o x) (ph:∀ (i:Nat) o,n1≤i→ops[i]?=some o→C2 o=true∨∀ f∈F,tC ops 8 o f=true) (cD:oP V n ops s.l (ops.take n1) 0 s.t ([]:List (Nat×AO)).length rs) {ft:Nat} (cM:RunT P n ops ft (wG ops n1) ⟨fF s.t (ops.take n1) rs,s.l++(([]:List (Nat×AO))++bp 0 rs).map (·.2)⟩ K):wpAnyIn dB 0 P .any ops.toArray Q ops.length (Array.replicate ops.length false) a { w with drawn:=w.drawn+1 }:=by
 obtain⟨aS,I,m,hw,dZ,ht⟩:=aq
 have r8:∀ i,(Array.replicate ops.length false).getD i false=false:=fun i=>by
  rw[Array.getD_eq_getD_getElem?]
  cases hx:(Array.replicate ops.length false)[i]? with
  | none=>rfl
  | some b=>have:=Array.getElem?_eq_some_iff.1 hx;simp at this;simp[←this.2]
 have qy:aI w0 I0 { w with drawn:=w.drawn+1 } I m s.l:=(hw.call (w':={ w with drawn:=w.drawn+1 }) ⟨rfl,rfl,rfl,Nat.le_refl _,fun _ _=>rfl,fun _=>Nat.le_succ _⟩ (jn.refl _ _) ⟨hw.sat.cell,hw.sat.mp,hw.sat.df,hw.sat.dS⟩).1
 obtain⟨Bh,hle⟩:aI w0 I0 { w with drawn:=w.drawn+1 } I m (cp s.l (bp 0 rs) fun i=>(Array.replicate ops.length false).getD i false)∧Le I m s.l I m (cp s.l (bp 0 rs) fun i=>(Array.replicate ops.length false).getD i false):=by
  have:(cp s.l (bp 0 rs) fun i=>(Array.replicate ops.length false).getD i false)=s.l++List.replicate (bp 0 rs).length .dead:=by
   unfold cp
   congr 1
   rw[List.eq_replicate_iff]
   refine⟨by simp,fun b hb=>?_⟩
   obtain⟨p,_,rfl⟩:=List.mem_map.1 hb
   rw[if_neg (by simp only[r8];simp)]
  rw[this]
  generalize (bp 0 rs).length=c
  induction c with
  | zero=>simp;exact⟨qy,.refl ..⟩
  | succ c ih=>
   obtain⟨q1,q2⟩:=ih
   obtain⟨r1,r2⟩:=q1.push
   rw[List.replicate_succ',←List.append_assoc]
   exact⟨r1,q2.trans r2⟩
 have:=axS (Q:=Q) (K:=K) hV hK fM iu bS cG eg (s0:=s) (rs:=rs) oC ph (by simpa using cD) (by simpa using cM) ops.length a { w with drawn:=w.drawn+1 } (Array.replicate ops.length false) (by simp)
  (by unfold oq;rw[List.filter_eq_self.2 (fun i _=>by rw[r8];rfl)];simp) (fun i _ _=>r8 i)
  (fun i o _ hl=>by rw[r8] at hl;cases hl)
  ⟨aS,I,m,Bh,dZ.mono hle.eR,fun i o x d hi ho hx hl=>(by rw[r8] at hl;cases hl),fun d _=>(ht d).mono hle⟩
 simpa using this
def RJ (o:Oper):Bool:=RI o||match o.op with | .fieldAddr .. =>true | .build .. =>true | _=>false
def BE (t:Tm) (ops:List Oper) (n1:Nat):Nat→Nat→Bool
 | 0,p=>(match get t p with | .dH .. =>false | .cond .. =>false | _=>true)&&(ops.take n1).all fun q=>q.dst != some p
 | k+1,p=>((match get t p with | .dH .. =>false | .cond .. =>false | _=>true)&&(ops.take n1).all fun q=>q.dst != some p) ||
  (ops.take n1).any fun q=>q.dst == some p&&q.guard.isNone&&match q.op with | .fieldAddr _ (.tmp r) _=>BE t ops n1 k r | _=>false
def AL (t:Tm) (ops:List Oper) (n1:Nat) (F:List Nat):Bool:=F.all fun f=>match ops[f]? with
 | some o=>(match o.op with
  | .load _ (.tmp p)=>BE t ops n1 4 p
  | .load .. =>false
  | _=>true)
 | none=>true
def IK (x:T):Prop:=(∀ a b c,x ≠ .dH a b c)∧∀ a b,x ≠ .cond a b
theorem amh {x:T} (h:IK x) (pc:PC):(strip pc x).1=x:=by
 cases x<;>first | rfl | exact absurd rfl (h.2 _ _)
theorem aoN {E:dh} {s:TypeId} {f:Nat} {x:T} (h:IK x):IK (fa E s f (unbox x)).t:=by
 have hu:∀ a b c,unbox x ≠ .dH a b c:=by
  intro a b c hc
  unfold unbox at hc
  split at hc
  ·cases hc
  exact h.1 _ _ _ hc
 generalize unbox x=y at hu
 unfold fa
 split
 ·repeat' split
  all_goals exact⟨by simp[R.ok,R.bad],by simp[R.ok,R.bad]⟩
 ·repeat' split
  all_goals exact⟨by simp[R.ok,R.bad],by simp[R.ok,R.bad]⟩
 ·exact absurd rfl (hu _ _ _)
 exact⟨by simp[R.bad],by simp[R.bad]⟩
theorem axQ {l0:List AO} {n1:Nat} {tm:Tm} {rs:List Rec} (eg:n1≤ops.length) (cG:qC ops n1=true) (cD:oP V n ops l0 (ops.take n1) 0 tm 0 rs) :
  ∀ (k i p:Nat) o x,i < n1→ops[i]?=some o→rs[i]?=some x→p∈o5 ops o→BE tm ops n1 k p=true→IK (get x.tm p):=by
 have qu:rs.length=n1:=by rw[cD.len];simp;omega
 have base:∀ (i p:Nat) o x,i < n1→ops[i]?=some o→rs[i]?=some x→((match get tm p with | .dH .. =>false | .cond .. =>false | _=>true)&&(ops.take n1).all fun q=>q.dst != some p)=true→IK (get x.tm p):=by
  intro i p o x hi ho hx h
  obtain⟨_,rb,_⟩:=cD.at_ i o x (by rw[List.getElem?_take,if_pos hi];exact ho) hx
  rw[Bool.and_eq_true] at h
  have LR:get x.tm p=get tm p:=by
   rw[rb]
   refine yc _ _ _ p fun q hq hd=>?_
   have:=List.all_eq_true.1 h.2 q (List.mem_of_mem_take hq)
   rw[hd] at this;simp at this
  rw[LR]
  have h1:=h.1
  refine⟨fun a b c e=>?_,fun a b e=>?_⟩<;>rw[e] at h1<;>cases h1
 intro k
 induction k with
 | zero=>intro i p o x hi ho hx _ h;exact base i p o x hi ho hx h
 | succ k ih=>
  intro i p o x hi ho hx hr h
  unfold BE at h
  rw[Bool.or_eq_true] at h
  rcases h with h | h
  ·exact base i p o x hi ho hx h
  obtain⟨q,hq,xf⟩:=List.any_eq_true.1 h
  simp only[Bool.and_eq_true,beq_iff_eq,Option.isNone_iff_eq_none] at xf
  obtain⟨⟨Rm,hqg⟩,Rn⟩:=xf
  obtain⟨j,hj,rfl⟩:=List.mem_iff_getElem.1 hq
  have tZ:j < n1:=by simp at hj;omega
  have Bb:ops[j]?=some (ops.take n1)[j]:=by rw[List.getElem_take];exact List.getElem?_eq_getElem (by omega)
  generalize (ops.take n1)[j]=q at Rm hqg Rn Bb
  obtain⟨ec,_⟩:=(pW cG hi tZ ho Bb Rm).2 hr
  have wa:rs[j]?=some rs[j]:=List.getElem?_eq_getElem (by omega)
  generalize rs[j]=y at wa
  obtain⟨oX,rb,_⟩:=cD.at_ i o x (by rw[List.getElem?_take,if_pos hi];exact ho) hx
  obtain⟨ahS,_,_⟩:=cD.at_ j q y (by rw[List.getElem?_take,if_pos tZ];exact Bb) wa
  have LR:get x.tm p=y.out:=by
   rw[rb,show(ops.take n1).take i=ops.take i by rw[List.take_take];congr 1;omega]
   refine zq (ops.take i) (rs.take i) tm p j q y (by rw[List.getElem?_take,if_pos ec];exact Bb) (by rw[List.getElem?_take,if_pos ec];exact wa) Rm fun m q' jt hm=>?_
   have hmi:m < i:=by have:=(List.getElem?_eq_some_iff.1 jt).1;simp at this;omega
   rw[List.getElem?_take,if_pos hmi] at jt
   exact(pW cG (by omega) tZ jt Bb Rm).1 hm
  have eG:y.pc=[]:=ahS.Wm hqg
  have dt:=ahS.res (by rw[eG];trivial)
  rw[LR]
  unfold Rec.out
  rw[if_pos eG]
  split at Rn
  ·rename_i s r f hZ
   have xe:IK (get y.tm r):=ih j r q y tZ Bb wa (List.mem_append_left _ (List.mem_filterMap.2 ⟨.tmp r,by simp[hZ,Op.operands],rfl⟩)) Rn
   have:y.t=(fa V.E s f (unbox (get y.tm r))).t:=by
    have e:=congrArg R.t dt
    simp only at e
    rw[←e]
    unfold evalOp
    simp only[hZ]
    rw[show(strip y.pc (bd y.tm (.tmp r))).1=get y.tm r from amh xe _]
   rw[this]
   exact aoN xe
  cases Rn
theorem atG {l0:List AO} {F:List Nat} {n1:Nat} {tm:Tm} {rs:List Rec} (hn:∀ f∈F,f < n1) (eg:n1≤ops.length) (cG:qC ops n1=true) (h:(F.all fun f=>match ops[f]? with | some o=>RJ o | none=>true)=true) (hp:AL tm ops n1 F=true) (hg:∀ (f:Nat) o,f∈F→ops[f]?=some o→o.guard=none) (cD:oP V n ops l0 (ops.take n1) 0 tm 0 rs) :
  ∀ (f:Nat) o x,f∈F→ops[f]?=some o→rs[f]?=some x→xP V false l0 o x:=by
 intro f o x hf ho hx
 have XK:RJ o=true:=by have:=List.all_eq_true.1 h f hf;rw[ho] at this;exact this
 have Ri:=List.all_eq_true.1 hp f hf
 simp only[ho] at Ri
 obtain⟨oX,rb,_⟩:=cD.at_ f o x (by rw[List.getElem?_take,if_pos (hn f hf)];exact ho) hx
 have eG:x.pc=[]:=oX.Wm (hg f o hf ho)
 have dt:=oX.res (by rw[eG];trivial)
 unfold RJ at XK
 rw[Bool.or_eq_true] at XK
 rcases XK with bS | hfa
 ·have dj:x.new=none:=by
   cases hq:x.new with
   | none=>rfl
   | some b=>
    have hk:vk o=true:=by
     unfold RI at bS;unfold vk
     rw[Bool.or_eq_true] at bS ⊢
     refine bS.imp id fun h=>?_
     split at h<;>simp_all
    have:=(aiD (V:=V) (ρ:=fun y=>(strip x.pc (bd x.tm y)).1) (l:=l0) (nid:=x.nid) hk).2 b
    rw[dt,hq] at this;exact absurd rfl this
  refine⟨dj,fun _ af l' hl=>?_⟩
  rw[dj] at dt
  refine(aox (V:=V) (ρ:=fun y=>(strip x.pc (bd x.tm y)).1) (l:=l0) (l':=l') (nid:=x.nid) (nid':=0) bS ?_ (hl.resolve_left (by simp)) (by rw[dt]) (by rw[dt];exact af)).trans dt
  unfold aaz
  split
  ·rename_i t a hZ
   rw[hZ] at Ri
   cases a with
   | tmp p=>
    have xe:=axQ eg cG cD 4 f p o x (hn f hf) ho hx (List.mem_append_left _ (List.mem_filterMap.2 ⟨.tmp p,by simp[hZ,Op.operands],rfl⟩)) Ri
    have:(strip x.pc (bd x.tm (.tmp p))).1=get x.tm p:=amh xe _
    simp only[this]
    cases hq:get x.tm p<;>first | rfl | exact absurd hq (xe.1 _ _ _)
   | _=>cases Ri
  rfl
 cases hZ:o.op with
 | fieldAddr s a fi=>
  have heq:∀ l nid,evalOp V (fun y=>(strip x.pc (bd x.tm y)).1) l nid o=fa V.E s fi (unbox (strip x.pc (bd x.tm a)).1):=fun l nid=>by unfold evalOp;simp only[hZ]
  have dI:∀ z:T,(fa V.E s fi z).bI = .none:=by
   intro z;unfold fa;repeat' split
   all_goals rfl
  rw[heq] at dt
  have dj:x.new=none:=by
   cases hq:x.new with
   | none=>rfl
   | some b=>
    have:=dI (unbox (strip x.pc (bd x.tm a)).1)
    rw[dt,hq] at this;cases this
  refine⟨dj,fun _ _ l' _=>?_⟩
  rw[dj] at dt
  rw[heq];exact dt
 | build ty parts=>
  have heq:∀ l nid l2 ai6,evalOp V (fun y=>(strip x.pc (bd x.tm y)).1) l nid o=evalOp V (fun y=>(strip x.pc (bd x.tm y)).1) l2 ai6 o:=fun l nid l2 ai6=>by unfold evalOp;simp only[hZ]
  have dI:∀ l nid,(evalOp V (fun y=>(strip x.pc (bd x.tm y)).1) l nid o).bI = .none:=by
   intro l nid;unfold evalOp;simp only[hZ]
   repeat' split
   all_goals rfl
  have dj:x.new=none:=by
   cases hq:x.new with
   | none=>rfl
   | some b=>
    have:=dI l0 x.nid
    rw[dt,hq] at this;cases this
  refine⟨dj,fun _ _ l' _=>?_⟩
  rw[dj] at dt
  rw[heq l' 0 l0 x.nid];exact dt
 | _=>rw[hZ] at hfa;cases hfa
def KM (ops:List Oper) (n1:Nat) (F:List Nat):Bool:=ud ops&&((List.range ops.length).all fun i=>decide (i < n1)||match ops[i]? with | some o=>((List.range n1).all fun j=>F.contains j||tC ops 8 o j)&&(C2 o||F.all fun f=>tC ops 8 o f) | none=>true) &&
 (F.all fun f=>match ops[f]? with | some o=>RJ o | none=>true)&&wY ops n1 F&&qC ops n1&&decide (n1≤ops.length)&&BB ops ops.length (wG ops n1)
def JR (V:Env) (n:Nat) (ops:List Oper) (md:Way) (K:St→Prop) (s:St):List (List Nat)→Prop
 | []=>True
 | p::ps=>bu V n ops md (wq ops p) s K∧JR V n ops md K s ps
theorem JR.all {s:St}:∀ {ps:List (List Nat)},JR V n ops md K s ps→∀ p∈ps,bu V n ops md (wq ops p) s K
 | [],_,p,hp=>by cases hp
 | q::ps,h,p,hp=>by
  rcases List.mem_cons.1 hp with rfl | hp
  ·exact h.1
  exact JR.all h.2 p hp
theorem afx (hV:bO P V) (hm:P.follows .mixedOrders=true) {Q:Exit→Act→World→Prop} (hK:∀ s a w,K s→Rel w0 I0 n s a w→Q .normal a w) {id:Nat} {s:St} {a:Act} {w:World} (p:List Nat) (n1:Nat) (F:List Nat) {ft:Nat} (hp:xz p ops.length=true) (hd:KM (dJ p ops) n1 F=true) (Be:AL s.t (dJ p ops) n1 F=true) (aq:Rel w0 I0 n s a w)
  (h:dr V n (dJ p ops) md s.l ((dJ p ops).take n1) 0 s.t [] fun tm news=>RunT P n (dJ p ops) ft (wG (dJ p ops) n1) ⟨tm,s.l++news.map (·.2)⟩ K):(Code.region id ops.toArray true).wpIn dB 0 P Q a w:=by
 simp only[KM,Bool.and_eq_true,decide_eq_true_eq] at hd
 obtain⟨⟨⟨⟨⟨⟨fM,bL⟩,XG⟩,LM⟩,cG⟩,eg⟩,_⟩:=hd
 have hA:∀ (i:Nat) o,n1≤i→(dJ p ops)[i]?=some o→(∀ j,j < n1→j∉F→tC (dJ p ops) 8 o j=true)∧(C2 o=true∨∀ f∈F,tC (dJ p ops) 8 o f=true):=by
  intro i o hi ho
  have:=List.all_eq_true.1 bL i (List.mem_range.2 (List.getElem?_eq_some_iff.1 ho).1)
  rw[ho] at this
  simp only[Bool.or_eq_true,decide_eq_true_eq,Bool.and_eq_true,List.all_eq_true,List.mem_range,List.contains_iff_mem] at this
  obtain⟨h1,h2⟩:=this.resolve_left (by omega)
  exact⟨fun j hj hF=>(h1 j hj).resolve_left hF,h2⟩
 obtain⟨rs,cD,cM⟩:=zm _ _ _ _ h
 refine wpIn_region_any hm ?_
 have hwp:=aod (Q:=Q) (K:=K) hV hK fM (fun i o hi ho=>(hA i o hi ho).1) LM cG eg aq (B:=false) (atG (fun f hf=>(oQ LM hf).1) eg cG XG Be (fun f o hf ho=>((oQ LM hf).2 o ho).1) (by simpa using cD)) (fun i o hi ho=>(hA i o hi ho).2) cD cM
 have hz:∀ (N k:Nat),(Array.replicate N false).getD k false=false:=fun N k=>by
  rw[Array.getD_eq_getD_getElem?]
  cases hx:(Array.replicate N false)[k]? with
  | none=>rfl
  | some b=>have:=Array.getElem?_eq_some_iff.1 hx;simp at this;simp[←this.2]
 have:=aAX hp ops.length (Array.replicate ops.length false) (Array.replicate ops.length false) _ _ (by simp) (by simp) (fun i=>by rw[hz,hz]) (by rw[Nf hp] at hwp;exact hwp)
 simpa using this
end
section
variable {P:Program} {V:Env} {w0:World} {I0:aC} {n:Nat} {md:Way} {ops:List Oper} {Q:Exit→St→Prop} {K:St→Prop} {s:St} {y:Code}
theorem ab.Ub (hV:bO P V) (hm:P.follows .mixedOrders=true) (md:Way) (p:List Nat) (n1:Nat) (F:List Nat) (paths:List (List Nat)) (live:List Nat) {id:Nat} {ops:List Oper} (hp:xz p ops.length=true) (hd:KM (dJ p ops) n1 F=true)
  (hpa:((y7 (dJ p ops) ops.length (wG (dJ p ops) n1)).all fun q=>paths.contains q)=true) (Be:AL s.t (dJ p ops) n1 F=true)
  (h:∀ K:St→Prop,(∀ s',Q .normal s'→K s')→∀ K1:St→Prop,(∀ s',JR V n (dJ p ops) md (fun s'=>K ⟨an.bR live s'.t,s'.l⟩) s' paths→K1 s')→dr V n (dJ p ops) md s.l ((dJ p ops).take n1) 0 s.t [] fun tm news=>K1 ⟨tm,s.l++news.map (·.2)⟩):ab P w0 I0 n (Code.region id ops.toArray true) s Q:=fun _ _ hr=>by
 have hT:BB (dJ p ops) ops.length (wG (dJ p ops) n1)=true:=by
  simp only[KM,Bool.and_eq_true] at hd
  rw[Nf hp] at hd
  exact hd.2
 refine afx (md:=md) (Q:=fun e a' w'=>∃ s',Q e s'∧Rel w0 I0 n s' a' w') (K:=fun s'=>Q .normal ⟨an.bR live s'.t,s'.l⟩) (ft:=ops.length) hV hm (fun _ _ _ h1 h2=>⟨_,h1,Sub.bR live _ _ _ _ _ h2⟩) p n1 F hp hd Be hr ?_
 refine h _ (fun _ h=>h) (fun s'=>RunT P n (dJ p ops) ops.length (wG (dJ p ops) n1) s' fun s'=>Q .normal ⟨an.bR live s'.t,s'.l⟩) fun s' Bd=>?_
 exact RunT.ajB hV _ _ _ hT fun q hq=>Bd.all q (by have:=List.all_eq_true.1 hpa q hq;exact List.contains_iff_mem.1 this)
end
end Go.an
namespace Go.an
open Go Go.RowKit au
variable [ck] [dx]
section
variable {P:Program} {V:Env} {w0 w:World} {I0 I:aC} {m:Nat→Value} {l:List AO}
theorem anc (hE:cP P V.E) (aq:aI w0 I0 w I m l) {t e ty sz bt:Nat} {z els:List D} {i:TI} {id a b:Nat} {vs vx:Value} (Yj:V.E t=some ⟨sz,bt,z,.slice e⟩) (hi:V.E e=some i) (cC:0 < i.size)
  (hl:l[id]?=some (.row e i.size els)) (hs:aw I m l vs (.sub id 0 a)) (hx:aw I m l vx (.sub id b els.length)) (cA:a≤b) (hb:b≤els.length) (ba:els≠[]) :
  ∃ v' w',(Builtin.append_ #[t,t] ty #[vs,vx]).run P w = .ok v' w'∧Le I m l I m (l.set id (.row e i.size (els.take a++els.drop b++els.drop (a+(els.length - b))))) ∧
   aI w0 I0 w' I m (l.set id (.row e i.size (els.take a++els.drop b++els.drop (a+(els.length - b)))))∧aw I m (l.set id (.row e i.size (els.take a++els.drop b++els.drop (a+(els.length - b))))) v' (.sub id 0 (a+(els.length - b))):=by
 have hu:=uo hE Yj
 obtain⟨x,zv,k1,k2,_⟩:=jj (hE e i hi)
 have hY:id < l.length:=(List.getElem?_eq_some_iff.1 hl).1
 obtain⟨xs,q1,q2,q3,q4⟩:=aq.obj id _ hl
 obtain⟨A,n,c,rfl,A0,n0,c0,hm,h1,h2,h3⟩:∃ A n c,vs = .slice A n c∧∃ A0 n0 c0,m id = .slice A0 n0 c0∧0≤a∧a≤n0∧Value.slice A n c=sliced A0 0 a c0 i.size:=by
  cases hs with
  | sub A n c _ _ _ _ q=>exact⟨A,n,c,rfl,q e i.size els (.inl hl)⟩
 obtain⟨B,n',c',rfl,h6⟩:∃ B n' c',vx = .slice B n' c'∧Value.slice B n' c'=sliced A0 b els.length c0 i.size:=by
  cases hx with
  | sub B n' c' _ _ _ _ q=>
   obtain⟨A1,n1,c1,hm1,_,_,h⟩:=q e i.size els (.inl hl)
   rw[hm] at hm1
   injection hm1 with e1 e2 e3
   subst e1;subst e2;subst e3
   exact⟨B,n',c',rfl,h⟩
 rw[hm] at q1
 obtain⟨cw,tX⟩:=q1
 have qY:0 < els.length:=List.length_pos_iff.2 ba
 rcases tX with ⟨hv,h0⟩ | ⟨g,cap,cur,hv,hg,Q0,gE,rY,eW,jc⟩
 ·omega
 injection hv with jd HZ yC
 subst jd;subst HZ;subst yC
 have hA:A=some ⟨g,0,none⟩∧n=a∧c=c0:=by
  injection h3 with e1 e2 e3
  refine⟨?_,by omega,by omega⟩
  rw[e1]
  split
  ·rfl
  simp[Addr.add_lit]
 obtain⟨rfl,rfl,rfl⟩:=hA
 obtain⟨B0,hB⟩:∃ B0,B=some B0∧(B0=⟨g,b*i.size,none⟩∨els.length - b=0):=by
  injection h6 with e1 e2 e3
  by_cases CK:c=b
  ·rw[if_pos CK] at e1
   exact⟨_,e1,.inr (by omega)⟩
  rw[if_neg CK] at e1
  simp[Addr.add_lit] at e1
  exact⟨_,e1,.inl rfl⟩
 obtain⟨rfl,hB⟩:=hB
 have yw:n'=els.length - b:=by injection h6
 subst yw
 have hmul:els.length*i.size≤cur.size:=by rw[eW];exact Nat.mul_le_mul_right _ gE
 have Rc:(els.length - b)*i.size+b*i.size=els.length*i.size:=by rw[←Nat.add_mul];congr 1;omega
 have hma:n*i.size≤b*i.size:=Nat.mul_le_mul_right _ cA
 have uU:(xs.drop (b*i.size)).length=(els.length - b)*i.size:=by rw[List.length_drop,cw];omega
 have mn:∀ u∈xs.drop (b*i.size),u.oneCell'=true:=by
  intro u hu
  obtain⟨j,hj,rfl⟩:=List.mem_iff_getElem.1 (List.mem_of_mem_drop hu)
  have bS:(flat els).length=els.length*i.size:=ql els (fun d hd=>(q2 d hd).1)
  have gO:j < (flat els).length:=by rw[bS,←cw];exact hj
  refine(q3 j _ _ (List.getElem?_eq_getElem hj) (List.getElem?_eq_getElem gO)).one ?_
  have:=List.getElem_mem gO
  unfold flat at this
  obtain⟨d,hd,hx⟩:=List.mem_flatMap.1 this
  exact(q2 d hd).2 _ hx
 have oz:∀ j u,(xs.drop (b*i.size))[j]?=some u→w.cell? (B0.add j)=some u:=by
  intro j u hu
  have hj:=(List.getElem?_eq_some_iff.1 hu).1
  rcases hB with rfl | h0
  ·rw[Addr.add_lit]
   rw[List.getElem?_drop,←jc,List.getElem?_take] at hu
   rw[if_pos (by rw[uU] at hj;omega)] at hu
   simp only[World.cell?,Q0]
   simpa [Array.getElem?_toList] using hu
  rw[uU,h0] at hj;simp at hj
 have dL:=run_append_room (P:=P) w t ty e x hu k1 g n c cur Q0 B0 (els.length - b) c' (xs.drop (b*i.size)) (by rw[uU,k2]) oz mn (by omega) (by rw[uU,k2];omega)
 rw[k2,uU] at dL
 generalize hnw:(cur.toList.take (n*i.size)++xs.drop (b*i.size)++cur.toList.drop (n*i.size+(els.length - b)*i.size)).toArray=new at dL
 have uV:new.toList=cur.toList.take (n*i.size)++xs.drop (b*i.size)++cur.toList.drop (n*i.size+(els.length - b)*i.size):=by subst hnw;simp
 have pj:new.size=cur.size:=by
  rw[←Array.length_toList,uV]
  simp only[List.length_append,List.length_take,List.length_drop,Array.length_toList,cw]
  omega
 have E9:new.toList.take (els.length*i.size)=xs.take (n*i.size)++xs.drop (b*i.size)++xs.drop (n*i.size+(els.length - b)*i.size):=by
  rw[uV,←jc,UI _ _ _ _ _ (by omega) (by rw[Array.length_toList];exact hmul) (by rw[jc];exact uU)]
 have vX:(els.take n++els.drop b++els.drop (n+(els.length - b))).length=els.length:=by simp;omega
 have HN:∀ d∈els,d.cells.length=i.size:=fun d hd=>(q2 d hd).1
 have bS:(flat els).length=els.length*i.size:=ql els HN
 have arG:flat (els.take n++els.drop b++els.drop (n+(els.length - b)))=(flat els).take (n*i.size)++(flat els).drop (b*i.size)++(flat els).drop (n*i.size+(els.length - b)*i.size):=by
  rw[K6,K6,Qu els HN,V3 els HN,V3 els HN,Nat.add_mul]
 obtain⟨t1,t2⟩:=aq.OO (n:=els.length) (c:=c) (cur:=cur) (new:=new) (els':=els.take n++els.drop b++els.drop (n+(els.length - b))) (xs:=xs.take (n*i.size)++xs.drop (b*i.size)++xs.drop (n*i.size+(els.length - b)*i.size)) hl hm Q0
  ⟨by rw[vX];simp only[List.length_append,List.length_take,List.length_drop,cw];omega,.inr ⟨g,c,new,by rw[vX],hg,setRow_heap w g cur new e (0,0) Q0,by rw[vX];exact gE,rY,by rw[pj,eW],by rw[vX];exact E9⟩⟩
  (
   fun d hd=>by
   rcases List.mem_append.1 hd with hd | hd
   ·rcases List.mem_append.1 hd with hd | hd
    ·exact q2 d (List.mem_of_mem_take hd)
    exact q2 d (List.mem_of_mem_drop hd)
   exact q2 d (List.mem_of_mem_drop hd))
  (
   fun j u y hu hy=>by
   rw[arG] at hy
   simp only[List.getElem?_append,List.getElem?_take,List.getElem?_drop,List.length_append,List.length_take,List.length_drop,cw,bS] at hu hy
   repeat' split at hu
   all_goals repeat' split at hy
   all_goals first | omega | cases hu | exact q3 _ u y hu hy)
 refine⟨_,_,dL,t1,t2,?_⟩
 refine .sub _ _ _ _ _ _ (by simpa using hY) fun e2 Ot afF iZ=>?_
 rw[List.getElem?_set,if_pos rfl,if_pos hY] at iZ
 have:Ot=i.size:=by
  rcases iZ with h | h
  ·injection h with h;injection h with _ h _;exact h.symm
  injection h with h;cases h
 subst this
 refine⟨_,_,_,hm,Nat.zero_le _,by omega,?_⟩
 unfold sliced
 congr 1
 split
 ·rfl
 simp[Addr.add_lit]
def Av (P:Program) (s:St) (o:Oper) (u:T) (l':List AO):Prop:=∀ (w0 w:World) (I0 I:aC) (m:Nat→Value) (ρ:Operand→Value),aI w0 I0 w I m s.l→(∀ x∈o.op.operands,aw I m s.l (ρ x) (bd s.t x)) →
 cz P ((execOp ρ o).run P w) fun v w'=>∃ J m',Le I m s.l J m' l'∧aI w0 I0 w' J m' l'∧aw J m' l' v u
theorem wP.zg {n:Nat} {ops:List Oper} {o:Oper} {s:St} {u:T} {l':List AO} {K:T→List AO→Prop} (hg:o.guard=none) (gj:∀ c,o.op ≠ .defer c) (hd:cR n o.dst=true) (hv:eM s.l l') (h:Av P s o u l') (hk:K u l'):wP P n ops o s K:=by
 intro st hl ha w0 I0 a w Q Kn aq hK
 have hx:∀ x∈o.op.operands,bd st.t x=bd s.t x:=fun x hx=>KZ fun t ht=>ha t (List.mem_append_left _ (List.mem_filterMap.2 ⟨x,by simpa using hx,by rw[ht]⟩))
 obtain⟨aS,I,m,hw,dZ,ht⟩:=aq
 rw[hl] at hw
 have ht:∀ k,aw I m s.l (a.tmps.getD k undef) (get st.t k):=fun k=>hl▸ht k
 have fX:Region.wanted o (yielded ops.toArray a.tmps)=true:=by simp[Region.wanted,hg]
 rw[if_pos fX]
 refine cz.wpIn gj ((h w0 w I0 I m a.eval hw (fun x CX=>by rw[←hx x CX];exact Cz hw.sat.dS ht x)).mono fun v w' ⟨J,m',hle,dc,Yv⟩=>hK u l' _ w' hk (fun _=>hv) ⟨by cases o.dst<;>simp[Act.put,aS],J,m',dc,dZ.put hle.eR,z6 aS hd (fun k=>(ht k).mono hle) Yv⟩)
theorem vG.zg {n:Nat} {ops:List Oper} {o:Oper} {s:St} {u:T} {l':List AO} {K:T→List AO→Prop} (hg:o.guard=none) (gj:∀ c,o.op ≠ .defer c) (hd:cR n o.dst=true) (hv:eM s.l l') (h:Av P s o u l') (hk:K u l'):vG P n ops o s K:=by
 intro st hl ha w0 I0 a w Q Kn aq hK
 have hx:∀ x∈o.op.operands,bd st.t x=bd s.t x:=fun x hx=>KZ fun t ht=>ha t (List.mem_append_left _ (List.mem_filterMap.2 ⟨x,by simpa using hx,by rw[ht]⟩))
 obtain⟨aS,I,m,hw,dZ,ht⟩:=aq
 rw[hl] at hw
 have ht:∀ k,aw I m s.l (a.tmps.getD k undef) (get st.t k):=fun k=>hl▸ht k
 have fX:Region.wanted o (yielded ops.toArray a.tmps)=true:=by simp[Region.wanted,hg]
 rw[if_pos fX]
 refine cz.wpIn gj ((h w0 w I0 I m a.eval hw (fun x CX=>by rw[←hx x CX];exact Cz hw.sat.dS ht x)).mono fun v w' ⟨J,m',hle,dc,Yv⟩=>hK u l' _ w' hk (fun _=>hv) ⟨by cases o.dst<;>simp[Act.put,aS],J,m',dc,dZ.put hle.eR,z6 aS hd (fun k=>(ht k).mono hle) Yv⟩)
theorem cm.zg {n k:Nat} {ops:List Oper} {live:List Nat} {K:St→Prop} {o:Oper} {s:St} (u:T) (l':List AO) (ho:ops[k]?=some o) (hg:o.guard=none) (gj:∀ c,o.op ≠ .defer c) (hd:cR n o.dst=true) (hv:eM s.l l') (hdo:Av P s o u l')
  (h:cm P n ops (k+1) live ⟨bq s.t o.dst u,l'⟩ K):cm P n ops k live s K:=by
 unfold cm at h ⊢
 have hk:=(List.getElem?_eq_some_iff.1 ho).1
 rw[List.drop_eq_getElem_cons hk,(List.getElem?_eq_some_iff.1 ho).2]
 exact wP.zg hg gj hd hv hdo h
theorem amj {l:List AO} {I:aC} {m:Nat→Value} {v:Value} {id lo hi e size:Nat} {els:List D} (hl:l[id]?=some (.row e size els)) (h:aw I m l v (.sub id lo hi)) :
  ∃ A0 n0 c0,m id = .slice A0 n0 c0∧lo≤hi∧hi≤n0∧v=sliced A0 lo hi c0 size:=by
 cases h with
 | sub A n c _ _ _ _ q=>exact q e size els (.inl hl)
theorem YS {l:List AO} {I:aC} {m:Nat→Value} {v:Value} {k:IntKind} {n:Int} (h:aw I m l v (.d (.int k n))):v = .int k n:=by
 have:=dp h;cases this;rfl
theorem azG {l:List AO} {w0 w:World} {I0 I:aC} {m:Nat→Value} {id e size:Nat} {els:List D} (aq:aI w0 I0 w I m l) (hl:l[id]?=some (.row e size els)):∃ A c,m id = .slice A els.length c∧els.length≤c:=by
 obtain⟨xs,k1,_⟩:=aq.obj id _ hl
 rcases k1.2 with ⟨h1,h2⟩ | ⟨g,cap,cur,h1,_,_,h2,_⟩
 ·exact⟨none,0,by rw[h1,h2],by omega⟩
 exact⟨_,cap,h1,h2⟩
theorem an9 {s:St} {o:Oper} {t id lo hi e size:Nat} {x:Operand} {els:List D} (hZ:o.op = .call ⟨.builtin .len,#[x],#[t]⟩) (hE:cP P V.E) {sz bt e':Nat} {z:List D} (hs:V.E t=some ⟨sz,bt,z,.slice e'⟩) (hx:bd s.t x = .sub id lo hi) (hl:s.l[id]?=some (.row e size els)) (fc:hi≤9223372036854775807) :
  Av P s o (.d (.int .i64 ((hi - lo:Nat):Int))) s.l:=by
 intro w0 w I0 I m ρ aq hr
 have hv:=hr x (by simp[hZ,Op.operands,Call.operands])
 rw[hx] at hv
 obtain⟨A0,n0,c0,hm,h1,h2,h3⟩:=amj hl hv
 have hu:=uo hE hs
 have hex:(execOp ρ o).run P w = .ok (.value (.int .i64 ((hi - lo:Nat):Int))) w:=by
  refine CA (c:=⟨.builtin .len,#[x],#[t]⟩) rfl hZ (fun k=>rfl) ?_
  rw[show(#[x]:Array Operand).map ρ = #[ρ x] by simp,h3]
  simp[sliced,Builtin.len_,run_underlying hu,goInt]
 simp only[hex,cz]
 exact⟨I,m,.refl ..,aq,.d _ _ (.int _ _)⟩
theorem aoa {s:St} {o:Oper} {t id h e:Nat} {x xa xb:Operand} {ka kb:IntKind} {a b:Int} {els:List D} {i:TI} (hZ:o.op = .slice t x (some xa) (some xb) none) (hE:cP P V.E) {sz bt:Nat} {z:List D} (hs:V.E t=some ⟨sz,bt,z,.slice e⟩) (hi:V.E e=some i) (hx:bd s.t x = .sub id 0 h) (hl:s.l[id]?=some (.row e i.size els))
  (Rw:bd s.t xa = .d (.int ka a)) (hxb:bd s.t xb = .d (.int kb b)) (h0:0≤a) (h1:a≤b) (h2:b≤els.length):Av P s o (.sub id a.toNat b.toNat) s.l:=by
 intro w0 w I0 I m ρ aq hr
 have hv:=hr x (by simp[hZ,Op.operands])
 have pn:=hr xa (by simp[hZ,Op.operands])
 have Bg:=hr xb (by simp[hZ,Op.operands])
 rw[hx] at hv;rw[Rw] at pn;rw[hxb] at Bg
 have pn:=YS pn
 have Bg:=YS Bg
 obtain⟨A0,n0,c0,hm,q1,q2,q3⟩:=amj hl hv
 obtain⟨A,c,hm',hc⟩:=azG aq hl
 rw[hm] at hm'
 injection hm' with e1 e2 e3
 subst e1;subst e2;subst e3
 have hu:=uo hE hs
 have dm:P.underlying t=some (.slice (P.elem t)):=by simp[Program.elem,hu]
 have he:P.elem t=e:=by simp[Program.elem,hu]
 have yA:(sizeOf (P.elem t)).run P w = .ok i.size w:=by rw[he,vq hE hi]
 have yC:ρ x = .slice A0 h c0:=by
  rw[q3];unfold sliced;congr 1
  split
  ·rfl
  cases A0 with
  | none=>rfl
  | some ad=>
   obtain⟨xs,k1,_⟩:=aq.obj id _ hl
   rw[hm] at k1
   rcases k1.2 with ⟨h1,h2⟩ | ⟨g,cap,cur,h1,_⟩
   ·cases h1
   injection h1 with h1;injection h1 with h1;subst h1;simp[Addr.add_lit]
 have hex:(execOp ρ o).run P w = .ok (.value (sliced A0 a.toNat b.toNat c0 i.size)) w:=by
  unfold execOp
  have:=run_slice_lh w t A0 h c0 dm ka kb a b h0 h1 (by omega)
  simp only[hZ,Option.map_some,pn,Bg,yC,Sem.run_bind,Option.map_none]
  rw[run_sliceAt_slice w t _ _ _ _ dm,this,yA];rfl
 simp only[hex,cz]
 refine⟨I,m,.refl ..,aq,?_⟩
 refine .sub _ _ _ _ _ _ (List.getElem?_eq_some_iff.1 hl).1 fun e2 Ot afF iZ=>?_
 have:Ot=i.size:=by
  rw[hl] at iZ
  rcases iZ with h | h
  ·injection h with h;injection h with _ h _;exact h.symm
  injection h with h;cases h
 subst this
 exact⟨A0,_,c0,hm,by omega,by omega,rfl⟩
theorem an8 {s:St} {o:Oper} {t id a b e:Nat} {x y:Operand} {els:List D} {i:TI} (hZ:o.op = .call ⟨.builtin .append,#[x,y],#[t,t]⟩) (hE:cP P V.E) {sz bt:Nat} {z:List D} (hs:V.E t=some ⟨sz,bt,z,.slice e⟩) (hi:V.E e=some i) (cC:0 < i.size) (hx:bd s.t x = .sub id 0 a) (hy:bd s.t y = .sub id b els.length)
  (hl:s.l[id]?=some (.row e i.size els)) (cA:a≤b) (hb:b≤els.length) (ba:els≠[]):Av P s o (.sub id 0 (a+(els.length - b))) (s.l.set id (.row e i.size (els.take a++els.drop b++els.drop (a+(els.length - b))))):=by
 intro w0 w I0 I m ρ aq hr
 have s7:=hr x (by simp[hZ,Op.operands,Call.operands])
 have H0:=hr y (by simp[hZ,Op.operands,Call.operands])
 rw[hx] at s7;rw[hy] at H0
 obtain⟨v',w',h1,h2,h3,h4⟩:=anc (ty:=o.type) hE aq hs hi cC hl s7 H0 cA hb ba
 have hex:(execOp ρ o).run P w = .ok (.value v') w':=by
  refine CA (c:=⟨.builtin .append,#[x,y],#[t,t]⟩) rfl hZ (fun k=>rfl) ?_
  rw[show(#[x,y]:Array Operand).map ρ = #[ρ x,ρ y] by simp]
  exact h1
 simp only[hex,cz]
 exact⟨I,m,h2,h3,h4⟩
theorem aAC {l:List AO} {id e size:Nat} {els els':List D} (hl:l[id]?=some (.row e size els)):eM l (l.set id (.row e size els')):= .set _ (by unfold isVar;rw[hl];rfl)
theorem RunT.nil {n:Nat} {ops:List Oper} {s:St} {K:St→Prop} (h:K s):∀ f,RunT P n ops f [] s K
 | 0=>⟨rfl,h⟩
 | f+1=>⟨fun _=>h,fun i hi=>by cases hi⟩
theorem RunT.seq1 (hV:bO P V) {n:Nat} {ops:List Oper} {md:Way} {s:St} {K:St→Prop} {o:Oper} {f:Nat} {rem:List Nat} (h:bu V n ops md [o] s fun s'=>RunT P n ops f rem s' K):vG P n ops o s fun u l'=>RunT P n ops f rem ⟨bq s.t o.dst u,l'⟩ K:=
 (amg hV (r:=[]) h).mono fun _ _ h=>h
end
section
variable {P:Program} {V:Env}
theorem afv (hV:bO P V) {s:St} {o:Oper} {u:T} {l':List AO} {ob:Prop} (h:evalOp V (bd s.t) s.l s.l.length o=⟨u,.bG l',ob⟩) (af:ob):Av P s o u l':=by
 intro w0 w I0 I m ρ aq hr
 have:=AK (nid:=s.l.length) hV aq (jm.refl _) hr (by rw[h];exact af)
 rw[h] at this
 unfold cy at this
 exact this rfl rfl
theorem RunT.del (hV:bO P V) (mo:V.sub=true) {n:Nat} {a0 a1 a2 a3 a4 a5 a6 a7:Oper} {s:St} {K:St→Prop} {t e id i j sz bt:Nat} {z els:List D} {ti:TI}
  (q4:a4.op = .slice t (.tmp 20) none (some (.tmp 21)) none) (d4:a4.dst=some 22) (g4:a4.guard=none)
  (q5:a5.op = .slice t (.tmp 23) (some (.tmp 24)) none none) (d5:a5.dst=some 25) (g5:a5.guard=none)
  (q6:a6.op = .call ⟨.builtin .append,#[.tmp 22,.tmp 25],#[t,t]⟩) (d6:a6.dst=some 26) (g6:a6.guard=none)
  (q7:a7.op = .assign (.tmp 26)) (d7:a7.dst=some 0) (g7:a7.guard=none) (hn:26 < n)
  (e1:vN [a0,a1,a2,a3,a4,a5,a6,a7] [4,5,6,7] 6=false) (e2:vN [a0,a1,a2,a3,a4,a5,a6,a7] [4,5,6,7] 7=false) (e3:vN [a0,a1,a2,a3,a4,a5,a6,a7] [5,6,7] 6=false) (e4:vN [a0,a1,a2,a3,a4,a5,a6,a7] [5,6,7] 7=false)
  (e5:vN [a0,a1,a2,a3,a4,a5,a6,a7] [4,6,7] 6=false) (e6:vN [a0,a1,a2,a3,a4,a5,a6,a7] [4,6,7] 7=false) (e7:vN [a0,a1,a2,a3,a4,a5,a6,a7] [6,7] 7=false)
  (hs:V.E t=some ⟨sz,bt,z,.slice e⟩) (hi:V.E e=some ti) (cC:0 < ti.size)
  (AQ:get s.t 20 = .row id) (qn:get s.t 21 = .d (.int .i64 i)) (Ex:get s.t 23 = .row id) (sV:get s.t 24 = .d (.int .i64 j))
  (hl:s.l[id]?=some (.row e ti.size els)) (cj:i < j) (hj:j≤els.length)
  (hK:∀ s':St,s'.l=s.l.set id (.row e ti.size (els.take i++els.drop j++els.drop (i+(els.length - j))))→get s'.t 0 = .sub id 0 (i+(els.length - j))→(∀ k,k≠0→k≠22→k≠25→k≠26→get s'.t k=get s.t k)→K s') :
  RunT P n [a0,a1,a2,a3,a4,a5,a6,a7] 8 [4,5,6,7] s K:=by
 have ba:els≠[]:=by intro h;subst h;simp at hj;omega
 have tail:∀ (st:St),st.l=s.l→get st.t 22 = .sub id 0 i→get st.t 25 = .sub id j els.length→(∀ k,k≠22→k≠25→get st.t k=get s.t k)→RunT P n [a0,a1,a2,a3,a4,a5,a6,a7] 6 [6,7] st K:=by
  intro st EV g22 Wj gk
  refine⟨by simp,fun q hq fb o ho=>?_⟩
  simp only[List.mem_cons,List.not_mem_nil,or_false] at hq
  rcases hq with rfl | rfl
  ·have ho:a6=o:=by simpa using ho
   subst ho
   refine vG.zg g6 (by simp[q6]) (by simp[cR,d6,hn]) (aAC (by rw[EV];exact hl)) (an8 q6 hV.E hs hi cC (a:=i) (b:=j) g22 Wj (by rw[EV];exact hl) (by omega) hj ba) ?_
   rw[d6,EV]
   show RunT P n _ 5 [7] _ K
   refine⟨by simp,fun q hq fb o ho=>?_⟩
   simp only[List.mem_cons,List.not_mem_nil,or_false] at hq
   subst hq
   have ho:a7=o:=by simpa using ho
   subst ho
   refine RunT.seq1 hV (md:=none) ?_
   have hg:get ((26,T.sub id 0 (i+(els.length - j)))::st.t) 26=T.sub id 0 (i+(els.length - j)):=by simp[get]
   simp only[bu,g7,dU,dz,evalOp,q7,bd,bq,hg,typed,R.ok,holds,cR,d7,after]
   refine⟨fun _=>trivial,by simp;omega,?_⟩
   refine RunT.nil ?_ 4
   refine hK _ rfl (by simp[get]) fun k k0 k1 k2 k3=>?_
   simp only[get]
   rw[if_neg (Ne.symm k0),if_neg (Ne.symm k3)]
   exact gk k k1 k2
  rw[e7] at fb;cases fb
 have s4:∀ (st:St),st.l=s.l→get st.t 20 = .row id→get st.t 21 = .d (.int .i64 i)→Av P st a4 (.sub id 0 i) s.l:=by
  intro st EV g20 g21
  refine afv hV (ob:=(0:Int)≤i∧(i:Int)≤els.length) ?_ ⟨by omega,by omega⟩
  simp only[evalOp,q4,bd,g20,g21,hs,mo,if_true,Option.map_none,Option.map_some,EV,fE,hl,cX]
  simp[bw,hi]
 have s5:∀ (st:St),st.l=s.l→get st.t 23 = .row id→get st.t 24 = .d (.int .i64 j)→Av P st a5 (.sub id j els.length) s.l:=by
  intro st EV g20 g21
  refine afv hV (ob:=(0:Int)≤j∧(j:Int)≤els.length) ?_ ⟨by omega,by omega⟩
  simp only[evalOp,q5,bd,g20,g21,hs,mo,if_true,Option.map_none,Option.map_some,EV,fE,hl,cX]
  simp[bw,hi]
 refine⟨by simp,fun q hq fb o ho=>?_⟩
 simp only[List.mem_cons,List.not_mem_nil,or_false] at hq
 rcases hq with rfl | rfl | rfl | rfl
 ·have ho:a4=o:=by simpa using ho
  subst ho
  refine vG.zg g4 (by simp[q4]) (by simp[cR,d4];omega) (eM.refl _) (s4 s rfl AQ qn) ?_
  rw[d4]
  show RunT P n _ 7 [5,6,7] _ K
  refine⟨by simp,fun q hq fb o ho=>?_⟩
  simp only[List.mem_cons,List.not_mem_nil,or_false] at hq
  rcases hq with rfl | rfl | rfl
  ·have ho:a5=o:=by simpa using ho
   subst ho
   refine vG.zg g5 (by simp[q5]) (by simp[cR,d5];omega) (eM.refl _) (s5 _ rfl (by simp[bq,get,Ex]) (by simp[bq,get,sV])) ?_
   rw[d5]
   show RunT P n _ 6 [6,7] _ K
   exact tail _ rfl (by simp[bq,get]) (by simp[bq,get]) fun k k1 k2=>by simp only[bq,get];rw[if_neg (Ne.symm k2),if_neg (Ne.symm k1)]
  ·rw[e3] at fb;cases fb
  rw[e4] at fb;cases fb
 ·have ho:a5=o:=by simpa using ho
  subst ho
  refine vG.zg g5 (by simp[q5]) (by simp[cR,d5];omega) (eM.refl _) (s5 s rfl Ex sV) ?_
  rw[d5]
  show RunT P n _ 7 [4,6,7] _ K
  refine⟨by simp,fun q hq fb o ho=>?_⟩
  simp only[List.mem_cons,List.not_mem_nil,or_false] at hq
  rcases hq with rfl | rfl | rfl
  ·have ho:a4=o:=by simpa using ho
   subst ho
   refine vG.zg g4 (by simp[q4]) (by simp[cR,d4];omega) (eM.refl _) (s4 _ rfl (by simp[bq,get,AQ]) (by simp[bq,get,qn])) ?_
   rw[d4]
   show RunT P n _ 6 [6,7] _ K
   exact tail _ rfl (by simp[bq,get]) (by simp[bq,get]) fun k k1 k2=>by simp only[bq,get];rw[if_neg (Ne.symm k1),if_neg (Ne.symm k2)]
  ·rw[e5] at fb;cases fb
  rw[e6] at fb;cases fb
 ·rw[e1] at fb;cases fb
 rw[e2] at fb;cases fb
end
theorem Sub.aAm {s:St} (k id:Nat) {e size:Nat} {els:List D} (hk:get s.t k = .row id) (ho:s.l[id]?=some (.row e size els)∨s.l[id]?=some (.cF e size els)):an.Sub s ⟨(k,.fQ id (.slice size els))::s.t,s.l.set id (.cF e size els)⟩:=by
 intro w0 I0 n a w hr
 obtain⟨h1,I,m,h3,h2,h4⟩:=hr
 have hv:=h4 k
 rw[hk] at hv
 have hY:id < s.l.length:=by rcases ho with ho | ho<;>exact(List.getElem?_eq_some_iff.1 ho).1
 have hd:∃ l',dA s.l (.row id)=some (.slice size els,l')∧l'=s.l.set id (.cF e size els):=by
  rcases ho with ho | ho
  ·exact⟨_,by simp[dA,ho],rfl⟩
  refine⟨s.l,by simp[dA,ho],?_⟩
  apply List.ext_getElem?
  intro j
  by_cases hj:j=id
  ·subst hj;rw[List.getElem?_set_self hY,ho]
  rw[List.getElem?_set_ne (Ne.symm hj)]
 obtain⟨l',hd,rfl⟩:=hd
 obtain⟨J,le,r,dg,_⟩:=ac4 h3 hv hd
 refine⟨h1,J,m,r,h2.mono le.eR,fun j=>?_⟩
 simp only[get]
 split
 ·rename_i hj
  subst hj
  generalize a.tmps.getD k undef=v at hv dg
  cases hv with
  | row A n c _ p1 p2=>
   refine .fQ A n c id _ (by simpa using p1) (fun _=>p2 ?_) dg
   unfold isRow
   rcases ho with ho | ho<;>simp[ho,AO.isRow]
 exact(h4 j).mono le
def T.plain:T→T
 | .fQ _ x=> .d x
 | t=>t
theorem Sub.plain {s:St}:an.Sub s ⟨s.t.map fun p=>(p.1,p.2.plain),s.l⟩:=by
 intro w0 I0 n a w hr
 obtain⟨h1,I,m,h3,h2,h4⟩:=hr
 refine⟨h1,I,m,h3,h2,fun j=>?_⟩
 have hg:∀ t:Tm,get (t.map fun p=>(p.1,p.2.plain)) j=(get t j).plain:=by
  intro t
  induction t with
  | nil=>rfl
  | cons p t ih=>
   obtain⟨i,x⟩:=p
   simp only[List.map_cons,get]
   split
   ·rfl
   exact ih
 show aw I m s.l _ (get (s.t.map fun p=>(p.1,p.2.plain)) j)
 rw[hg]
 have:=h4 j
 revert this
 generalize a.tmps.getD j undef=vj
 generalize get s.t j=x
 intro this
 cases this with
 | fQ A n c id y p1 p2 p3=>exact .d _ _ p3
 | undef=>exact .undef _
 | d v x hx=>exact .d _ _ hx
 | ao q=>exact .ao _
 | ptr id b off q1 q2=>exact .ptr id b off q1 q2
 | fy b o size els k off val q1 q2 q3 q4=>exact .fy b o size els k off val q1 q2 q3 q4
 | row A n c id q1 q2=>exact .row A n c id q1 q2
 | dH a id k off q1 q2=>exact .dH a id k off q1 q2
 | map r id q1 q2=>exact .map r id q1 q2
 | bn vs ts q1 q2=>exact .bn vs ts q1 q2
 | cond _ pc t q1 q2=>exact .cond _ pc t q1 q2
 | aR g vs ts q1 q2=>exact .aR g vs ts q1 q2
 | cE id b q1 q2=>exact .cE id b q1 q2
 | sub A n c id lo hi q1 q2=>exact .sub A n c id lo hi q1 q2
 | agg vs ts q1 q2 q3=>exact .agg vs ts q1 q2 q3
section
variable {P:Program} {V:Env} {w0:World} {I0:aC} {n:Nat} {md:Way} {Q:Exit→St→Prop} {s:St} {y:Code}
theorem ab.azC (hV:bO P V) (hm:P.follows .mixedOrders=true) (md:Way) (p:List Nat) (n1:Nat) (F:List Nat) (ft:Nat) (live:List Nat) {id:Nat} {ops:List Oper} (hp:xz p ops.length=true) (hd:KM (dJ p ops) n1 F=true) (Be:AL s.t (dJ p ops) n1 F=true)
  (h:∀ K:St→Prop,(∀ s',Q .normal s'→K s')→∀ K1:St→Prop,(∀ s',RunT P n (dJ p ops) ft (wG (dJ p ops) n1) s' (fun s'=>K ⟨an.bR live s'.t,s'.l⟩)→K1 s')→dr V n (dJ p ops) md s.l ((dJ p ops).take n1) 0 s.t [] fun tm news=>K1 ⟨tm,s.l++news.map (·.2)⟩):ab P w0 I0 n (Code.region id ops.toArray true) s Q:=fun _ _ hr=>by
 refine afx (md:=md) (Q:=fun e a' w'=>∃ s',Q e s'∧Rel w0 I0 n s' a' w') (K:=fun s'=>Q .normal ⟨an.bR live s'.t,s'.l⟩) (ft:=ft) hV hm (fun _ _ _ h1 h2=>⟨_,h1,Sub.bR live _ _ _ _ _ h2⟩) p n1 F hp hd Be hr ?_
 exact h _ (fun _ h=>h) (fun s'=>RunT P n (dJ p ops) ft (wG (dJ p ops) n1) s' fun s'=>Q .normal ⟨an.bR live s'.t,s'.l⟩) fun s' Bd=>Bd
end
end Go.an
namespace Go.an
open Go Go.RowKit au Go.Proofs Go.Sort
section
variable {α:Type} [au α]
variable {α:Type}
variable {ok:α→Prop} [Inhabited {x:α // ok x}]
variable {α:Type} [au α]
theorem aoM (D1:ck) [D0:ck] (EX:@ck.on D1) (XA:@ck.uK D1=@ck.uK D0) {P:Program} {g cmp e k:Nat} {ok:α→Prop} [Inhabited {x:α // ok x}] {cf:α→α→Int} (F:Flat α k) (hs:SWO (ltOf cf))
  (ym:∀ x y,ok x→ok y→@ee D1 P cmp ([enc x,enc y]++[]) (.int .i64 (cf x y)))
  (
   LG:∀ (b c:Nat) (d:Array {x:α // ok x}) (w:World) (vs:Array Value),CmpLays P cmp vs (fun x:{x:α // ok x}=>pF x.1) k (Cs ok cf) b 0 d.size w→HoldsK (fun x:{x:α // ok x}=>pF x.1) k w b 0 d→b < w.heap.size→d.size < 4611686018427387904 →
   Calls P g #[.slice (some ⟨b,0,none⟩) d.size c,.func (.func cmp) #[] vs] w fun e w'=>e = .returned (.tuple #[])∧∃ n os,w'=sortWorldK (fun x:{x:α // ok x}=>pF x.1) k w b 0 n (tB ok cf d) os)
  (zE:∀ (p:Option Addr) (c:Nat) (fv:Value) (w:World),Calls P g #[.slice p 0 c,fv] w fun e w'=>e = .returned (.tuple #[])∧w'=w)
  {l:List AO} {id:Nat} {xs:List α} (ho:l[id]?=some (.row e k (xs.map enc))) (hx:xs.length < 4611686018427387904) (fB:∀ x∈xs,ok x) (ha:oO cf xs) :
  qG P g [.row id,.d (.fn cmp)] l (.d (.bn [])) (l.set id (.row e k ((bD cf xs).map enc))):=by
 obtain⟨gs,EP,A5⟩:=alh hs fB ha
 have cv:l[id]?=some (.row e k (gs.map fun x:{x:α // ok x}=>(enc x.1:D))):=by rw[ho,←EP,List.map_map];rfl
 have:=alp (P:=P) (g:=g) (fd:= .fn cmp) (S:=tB ok cf) (venc:=fun x:{x:α // ok x}=>pF x.1) (denc:=fun x:{x:α // ok x}=>(enc x.1:D)) (fun d=>(acv hs d).1.1)
  (
   fun b c d w I fv hH hb hd LO bX=>by
   obtain⟨vs,rfl,h1,h2⟩:∃ vs,fv = .func (.func cmp) #[] vs∧vs.size=([]:List D).length∧∀ (i:Nat) v d,vs[i]?=some v→([]:List D)[i]?=some d→Rd I v d:=by
    cases LO
    exact⟨#[],rfl,rfl,by simp⟩
   exact LG b c d w vs (@afq D1 _ _ EX _ _ _ _ (fun x:{x:α // ok x}=>(enc x.1:D)) _ _ (fun x y=>ym x.1 y.1 x.2 y.2) (fun I x=>F.rd I x.1) _ _ _ _ I _ h1 h2 (fun mm os dk EO=>by
    have hI:=bX mm os dk EO
    exact @eD.mk D1 _ _ hI.cell hI.mp hI.df (fun g d h=>hI.dS g d (by rw[←XA];exact h)))) hH hb hd) zE
  (fun x=>by simp[pF,F.len]) (fun x=>⟨F.len x.1,fun y hy=>acq (F.sc x.1 y hy)⟩) (fun I x=>F.vd I x.1) (fun I x=>F.dv I x.1) cv (by rw[←EP] at hx;simpa using hx)
 have e:(tB ok cf gs.toArray).toList.map (fun x:{x:α // ok x}=>(enc x.1:D))=(bD cf xs).map enc:=by rw[←A5,List.map_map];rfl
 rw[e] at this
 exact this
end
end Go.an
