import Derived.Test.YtjigeffmmcmlnaaGreatDoorX2
import Derived.Maps.RangeRun
import Derived.Laws.IdiomStrings
import Derived.MapKept
import Derived.WideKeyRuns
import Derived.Laws.OwnMore
set_option linter.all false
set_option linter.unnecessarySimpa false
set_option linter.deprecated false
set_option linter.unusedVariables false
set_option linter.unusedSimpArgs false
set_option linter.unusedSectionVars false
namespace Go.an
open Go Go.RowKit
variable [ck]
section
variable {P:Program} {V:Env} {w0 w:World} {I0 I:aC} {m:Nat→Value} {l L:List AO} {nid:Nat} {o:Oper} {ρ:Operand→Value} {ρT:Operand→T}
theorem akV (base:Nat) (t ty e:TypeId) (i:TypeInfo) (size:Nat) (ht:P.underlying t=some (.slice e)) (hi:P.info? e=some i)
  (v:Value) (n:Nat) (xs:List Value) (cZ:w.ownsRow base e size v n xs) (c:Nat):(Builtin.append_ #[t,t] ty #[v,.slice none 0 c]).run P w = .ok v w:=by
 rcases cZ.2 with ⟨rfl,rfl⟩ | ⟨g,cap,cur,rfl,_,_,gE,_⟩
 ·simp[Builtin.append_,run_underlying ht,sizeOf,typeInfo,hi,Builtin.lenOf,Builtin.firstCells]
 simp[Builtin.append_,run_underlying ht,sizeOf,typeInfo,hi,Builtin.lenOf,Builtin.firstCells,gE,storeCells]
theorem akW (hE:cP P V.E) (bX:eD w I) {t ty e:TypeId} {i:TI} (hu:P.underlying t=some (.slice e)) (hi:V.E e=some i) (cC:0 < i.size) {base:Nat} {v vx:Value} {n Dn:Nat} {xs:List Value} {new:List D}
  (cZ:w.ownsRow base e i.size v n xs) (hx:Rd I vx (.slice Dn new)) (aS:Dn=i.size∨new.isEmpty=true) (hb:(n+new.length)*i.bytes≤140737488355328) (fc:n+new.length≤9223372036854775807) (zC:base≤w.heap.size) :
  ∃ v' w' news,(Builtin.append_ #[t,t] ty #[v,vx]).run P w = .ok v' w'∧w'.ownsRow base e i.size v' (n+new.length) (xs++news)∧w.grownBy w' v.ownBlock∧(v'.ownBlock=v.ownBlock∨v'.ownBlock=some w.heap.size) ∧
   (∀ d∈new,d.cells.length=i.size∧∀ x∈d.cells,x.one=true)∧(∀ (j:Nat) x y,news[j]?=some x→(flat new)[j]?=some y→Rd I x y):=by
 obtain⟨x,zv,k1,k2,k3,k4,k5,k6,k7,k8⟩:=jj (hE e i hi)
 have ri:zv.cells.size=i.size:=by have:=(As I _ _ k5).1;rw[Array.length_toList] at this;omega
 cases hx with
 | uj A c _ hc=>
  cases A with
  | none=>exact⟨v,w,[],akV base t ty e x i.size hu k1 v n xs cZ c,by simpa using cZ,World.grownBy.refl w _,.inl rfl,by simp,by simp⟩
  | some a=>
   obtain⟨v',w',h1,h2,h3,_,h5⟩:=run_append_own_at (P:=P) w base t ty e x zv i.size i.bytes hu k1 k4 k2 k3 ri cC v n xs cZ a 0 c [] (by simp) (by simp) (by simp) (by unfold maxLen;simp at fc;omega) (by simpa using hb) zC
   exact⟨v',w',[],h1,by simpa using h2,h3,h5,by simp,by simp⟩
 | slice b off n' c size els val q1 q2 q3 q4 q5 q6=>
  subst q1
  rcases aS with aS | aS
  ·subst aS
   have uU:∀ (j:Nat) u,((List.range (new.length*i.size)).map val)[j]?=some u→w.cell? ((⟨b,off,none⟩:Addr).add j)=some u:=by
    intro j u hu
    rw[List.getElem?_map] at hu
    by_cases hj:j < new.length*i.size
    ·rw[List.getElem?_range hj] at hu
     simp at hu
     rw[Addr.add_mid,bX.cell _ _ _ (q5 j hj),hu]
    rw[List.getElem?_eq_none (by simp;omega)] at hu;cases hu
   have CO:∀ (j:Nat) x y,((List.range (new.length*i.size)).map val)[j]?=some x→(flat new)[j]?=some y→Rd I x y:=by
    intro j u y hu hy
    have hj:j < new.length*i.size:=by rw[←ql new (fun d hd=>(q4 d hd).1)];exact(List.getElem?_eq_some_iff.1 hy).1
    rw[List.getElem?_map,List.getElem?_range hj] at hu
    simp at hu;subst hu
    exact q6 j y hy
   have mn:∀ u∈(List.range (new.length*i.size)).map val,u.oneCell'=true:=by
    intro u hu
    obtain⟨j,hj,rfl⟩:=List.mem_iff_getElem.1 hu
    have gO:j < (flat new).length:=by rw[ql new (fun d hd=>(q4 d hd).1)];simpa using hj
    have hy:(flat new)[j]?=some (flat new)[j]:=List.getElem?_eq_getElem gO
    refine(CO j _ _ (List.getElem?_eq_getElem hj) hy).one ?_
    obtain⟨d,hd,XD⟩:=List.mem_flatMap.1 (List.getElem_mem gO)
    exact(q4 d hd).2 _ XD
   obtain⟨v',w',h1,h2,h3,_,h5⟩:=run_append_own_at (P:=P) w base t ty e x zv i.size i.bytes hu k1 k4 k2 k3 ri cC v n xs cZ ⟨b,off,none⟩ new.length c ((List.range (new.length*i.size)).map val) (by simp) uU mn (by unfold maxLen;omega) hb zC
   exact⟨v',w',_,h1,h2,h3,h5,q4,CO⟩
  have:new=[]:=by simpa using aS
  subst this
  obtain⟨v',w',h1,h2,h3,_,h5⟩:=run_append_own_at (P:=P) w base t ty e x zv i.size i.bytes hu k1 k4 k2 k3 ri cC v n xs cZ ⟨b,off,none⟩ 0 c [] (by simp) (by simp) (by simp) (by unfold maxLen;simp at fc;omega) (by simpa using hb) zC
  exact⟨v',w',[],h1,by simpa using h2,h3,h5,by simp,by simp⟩
theorem acg (base:Nat) (t ty e:TypeId) (i:TypeInfo) (z:Value) (size bytes:Nat) (ht:P.underlying t=some (.slice e)) (hi:P.info? e=some i) (hz:i.zero=some z)
  (qv:i.size=size) (QX:i.bytes=bytes) (ri:z.cells.size=size) (aS:0 < size) (v:Value) (n:Nat) (xs:List Value) (cZ:w.ownsRow base e size v n xs)
  (a:Addr) (m c:Nat) (news:List Value) (hl:news.length=m*size) (uU:∀ j u,news[j]?=some u→w.cell? (a.add j)=some u) (h1:∀ u∈news,u.oneCell'=true)
  (EI:n+m≤maxLen) (ahl:(n+m)*bytes≤140737488355328) (zC:base≤w.heap.size) :
  ∃ v' w',(Builtin.append_ #[t,t] ty #[v,.slice (some a) m c]).run P w = .ok v' w'∧w'.ownsRow base e size v' (n+m) (xs++news)∧w.grownBy w' v.ownBlock∧(v'.ownBlock=v.ownBlock∨(v'.ownBlock=some w.heap.size∧w.grownBy w' none)):=by
 obtain⟨v',w',r1,r2,r3,_,r5⟩:=run_append_own_at (P:=P) w base t ty e i z size bytes ht hi hz qv QX ri aS v n xs cZ a m c news hl uU h1 EI ahl zC
 refine⟨v',w',r1,r2,r3,?_⟩
 rcases r5 with r5 | r5
 ·exact .inl r5
 subst qv;subst QX
 rcases cZ.2 with ⟨rfl,rfl⟩ | ⟨g,cap,cur,rfl,hbg,hg,gE,hcm,eW,ah1⟩
 ·exact .inr ⟨r5,r3⟩
 have aEe:n+m≤9223372036854775807:=by simp only[maxLen] at EI;omega
 by_cases ahT:n+m≤cap
 ·have arF:n*i.size+news.length≤cur.size:=by rw[hl,eW,←Nat.add_mul];exact Nat.mul_le_mul_right _ ahT
  have hr:=run_append_room (P:=P) w t ty e i ht hi g n cap cur hg a m c news hl uU h1 ahT arF
  rw[r1] at hr
  injection hr with hr _
  subst hr
  exact .inl rfl
 have holds:∀ j u,xs[j]?=some u→w.cell? ((⟨g,0,none⟩:Addr).add j)=some u:=cZ.cells (g:=g) rfl
 have hr:=run_append_grow (P:=P) w t ty e i z ht hi hz ⟨g,0,none⟩ n cap xs cZ.1 holds a m c news hl uU (by omega) (by omega) (growslice_fits (by omega) ahl)
 rw[r1] at hr
 injection hr with _ hr
 subst hr
 exact .inr ⟨r5,rfl,rfl,rfl,by simp,fun k hk h=>(World.grownBy_alloc w.drew _ none).block k hk h⟩
theorem azH (hE:cP P V.E) (bX:eD w I) {t ty e:TypeId} {i:TI} (hu:P.underlying t=some (.slice e)) (hi:V.E e=some i) (cC:0 < i.size) {base:Nat} {v vx:Value} {n Dn:Nat} {xs:List Value} {new:List D}
  (cZ:w.ownsRow base e i.size v n xs) (hx:Rd I vx (.slice Dn new)) (aS:Dn=i.size∨new.isEmpty=true) (hb:(n+new.length)*i.bytes≤140737488355328) (fc:n+new.length≤9223372036854775807) (zC:base≤w.heap.size) :
  ∃ v' w' news,(Builtin.append_ #[t,t] ty #[v,vx]).run P w = .ok v' w'∧w'.ownsRow base e i.size v' (n+new.length) (xs++news)∧w.grownBy w' v.ownBlock∧(v'.ownBlock=v.ownBlock∨(v'.ownBlock=some w.heap.size∧w.grownBy w' none)) ∧
   (∀ d∈new,d.cells.length=i.size∧∀ x∈d.cells,x.one=true)∧(∀ (j:Nat) x y,news[j]?=some x→(flat new)[j]?=some y→Rd I x y):=by
 obtain⟨x,zv,k1,k2,k3,k4,k5,k6,k7,k8⟩:=jj (hE e i hi)
 have ri:zv.cells.size=i.size:=by have:=(As I _ _ k5).1;rw[Array.length_toList] at this;omega
 cases hx with
 | uj A c _ hc=>
  cases A with
  | none=>exact⟨v,w,[],akV base t ty e x i.size hu k1 v n xs cZ c,by simpa using cZ,World.grownBy.refl w _,.inl rfl,by simp,by simp⟩
  | some a=>
   obtain⟨v',w',h1,h2,h3,h5⟩:=acg (P:=P) base t ty e x zv i.size i.bytes hu k1 k4 k2 k3 ri cC v n xs cZ a 0 c [] (by simp) (by simp) (by simp) (by unfold maxLen;simp at fc;omega) (by simpa using hb) zC
   exact⟨v',w',[],h1,by simpa using h2,h3,h5,by simp,by simp⟩
 | slice b off n' c size els val q1 q2 q3 q4 q5 q6=>
  subst q1
  rcases aS with aS | aS
  ·subst aS
   have uU:∀ (j:Nat) u,((List.range (new.length*i.size)).map val)[j]?=some u→w.cell? ((⟨b,off,none⟩:Addr).add j)=some u:=by
    intro j u hu
    rw[List.getElem?_map] at hu
    by_cases hj:j < new.length*i.size
    ·rw[List.getElem?_range hj] at hu
     simp at hu
     rw[Addr.add_mid,bX.cell _ _ _ (q5 j hj),hu]
    rw[List.getElem?_eq_none (by simp;omega)] at hu;cases hu
   have CO:∀ (j:Nat) x y,((List.range (new.length*i.size)).map val)[j]?=some x→(flat new)[j]?=some y→Rd I x y:=by
    intro j u y hu hy
    have hj:j < new.length*i.size:=by rw[←ql new (fun d hd=>(q4 d hd).1)];exact(List.getElem?_eq_some_iff.1 hy).1
    rw[List.getElem?_map,List.getElem?_range hj] at hu
    simp at hu;subst hu
    exact q6 j y hy
   have mn:∀ u∈(List.range (new.length*i.size)).map val,u.oneCell'=true:=by
    intro u hu
    obtain⟨j,hj,rfl⟩:=List.mem_iff_getElem.1 hu
    have gO:j < (flat new).length:=by rw[ql new (fun d hd=>(q4 d hd).1)];simpa using hj
    have hy:(flat new)[j]?=some (flat new)[j]:=List.getElem?_eq_getElem gO
    refine(CO j _ _ (List.getElem?_eq_getElem hj) hy).one ?_
    obtain⟨d,hd,XD⟩:=List.mem_flatMap.1 (List.getElem_mem gO)
    exact(q4 d hd).2 _ XD
   obtain⟨v',w',h1,h2,h3,h5⟩:=acg (P:=P) base t ty e x zv i.size i.bytes hu k1 k4 k2 k3 ri cC v n xs cZ ⟨b,off,none⟩ new.length c ((List.range (new.length*i.size)).map val) (by simp) uU mn (by unfold maxLen;omega) hb zC
   exact⟨v',w',_,h1,h2,h3,h5,q4,CO⟩
  have:new=[]:=by simpa using aS
  subst this
  obtain⟨v',w',h1,h2,h3,h5⟩:=acg (P:=P) base t ty e x zv i.size i.bytes hu k1 k4 k2 k3 ri cC v n xs cZ ⟨b,off,none⟩ 0 c [] (by simp) (by simp) (by simp) (by unfold maxLen;simp at fc;omega) (by simpa using hb) zC
  exact⟨v',w',[],h1,by simpa using h2,h3,h5,by simp,by simp⟩
theorem Na {B:Nat} {e:TypeId} {size n:Nat} {v:Value} {xs:List Value} (h:w.ownsRow B e size v n xs):own v=v.ownBlock∧∃ A n c,v = .slice A n c:=by
 rcases h.2 with ⟨rfl,_⟩ | ⟨g,cap,cur,rfl,_⟩
 ·exact⟨rfl,_,_,_,rfl⟩
 exact⟨rfl,_,_,_,rfl⟩
theorem anf (hE:cP P V.E) (aq:aI w0 I0 w I m l) {t ty:TypeId} {vs vx:Value} {s x:T} (hs:aw I m l vs s) (hx:aw I m l vx x) (hn:nid=l.length) (af:(fU V.E t l nid s x).ob) :
  ∃ l' v' w' J m',(fU V.E t l nid s x).bI = .bG l'∧(Builtin.append_ #[t,t] ty #[vs,vx]).run P w = .ok v' w'∧Le I m l J m' l'∧aI w0 I0 w' J m' l'∧aw J m' l' v' (fU V.E t l nid s x).t:=by
 subst hn
 unfold fU at af ⊢
 split at af
 ·rename_i e Yj
  split at af
  ·rename_i i hi
   have hu:=uo hE Yj
   split at af
   ·rename_i sx new l1 hd
    obtain⟨J,pS,r1,rx,w8⟩:=Jw aq hx hd
    split at af
    ·rename_i oT
     rw[if_pos oT]
     split at af
     ·
      rename_i ns
      cases hs
      obtain⟨v',w',news,h1,h2,h3,h4,h5,h6⟩:=akW (ty:=ty) hE r1.sat hu hi oT.2 (World.ownsRow_nil w w0.heap.size e i.size) rx (oT.1) (by simpa using af.1) (by simpa using af.2) r1.below.size
      obtain⟨o1,o2⟩:=Na h2
      have r6:∀ b,own v'=some b→w0.heap.size≤b∧J.gp b∧∀ k,alive l1 k=true→own (m k)≠some b:=by
       intro b hb
       have:b=w.heap.size:=by
        rw[o1] at hb
        rcases h4 with h4 | h4
        ·rw[h4] at hb;cases hb
        rw[h4] at hb;injection hb with hb;exact hb.symm
       subst this
       refine⟨r1.below.size,r1.sat.gp (Nat.le_refl _),fun k hk he=>?_⟩
       obtain⟨a,ha,qo⟩:=bZ.1 hk
       have:=((r1.obj k a ha).lt qo he).1;omega
      obtain⟨q1,q2,q3⟩:=r1.FC (v:=v') (lo:=l1) (e:=e) (size:=i.size) (els:=new) rfl (fun k a ha=> .inr ha) (fun _ _ _ h=>h) h3 (qD _ _ _ _ _ h1) (fun b hb=>by simp[Value.ownBlock] at hb) (fun b hb=>by simp[Value.ownBlock] at hb) r6 (by simpa using h2) h5 (by simpa using h6) o2
      rw[w8] at q1 q2 q3
      exact⟨_,v',w',J,_,rfl,h1,pS.trans q1,q2,q3⟩
     ·
      rename_i id
      split at af
      ·rename_i e' size els ho
       split at af
       ·rename_i iY
        obtain⟨rfl,qv,_⟩:=iY
        subst qv
        rw[if_pos ⟨rfl,rfl,w8.symm⟩]
        have cW:=hs.mono pS
        obtain⟨A,n,c,Mb,hm⟩:∃ A n c,vs = .slice A n c∧m id=vs:=by
         cases cW with
         | row A n c _ p1 p2=>exact⟨A,n,c,rfl,p2 (by simp[isRow,ho,AO.isRow])⟩
        obtain⟨xs,k1,k2,k3,k4⟩:=r1.obj id _ ho
        rw[hm] at k1 k4
        obtain⟨v',w',news,h1,h2,h3,h4,h5,h6⟩:=akW (ty:=ty) hE r1.sat hu hi oT.2 k1 rx oT.1 af.1 af.2 r1.below.size
        obtain⟨o1,o2⟩:=Na h2
        obtain⟨o3,_⟩:=Na k1
        have hY:id < l1.length:=(List.getElem?_eq_some_iff.1 ho).1
        have oD:∀ (k:Nat) a,(l1.set id .dead)[k]?=some a→a = .dead∨l1[k]?=some a:=by
         intro k a ha
         rw[List.getElem?_set] at ha
         split at ha
         ·first
           | (injection ha with ha;exact .inl ha.symm)
           | (split at ha<;>first | (injection ha with ha;exact .inl ha.symm) | cases ha)
         exact .inr ha
        have dD:∀ k,alive (l1.set id .dead) k=true→k≠id∧alive l1 k=true:=by
         intro k hk
         obtain⟨a,ha,qo⟩:=bZ.1 hk
         refine⟨?_,bZ.2 ⟨a,(oD k a ha).resolve_left qo,qo⟩⟩
         rintro rfl
         rw[List.getElem?_set,if_pos rfl,if_pos hY] at ha
         injection ha with ha;exact qo ha.symm
        have hold:∀ b,own vs=some b→w0.heap.size≤b∧J.gp b∧∀ k,alive (l1.set id .dead) k=true→own (m k)≠some b:=by
         intro b hb
         refine⟨((r1.obj id _ ho).lt (by simp) (by rw[hm];exact hb)).2,k4 b hb,fun k hk he=>?_⟩
         obtain⟨ba,jr⟩:=dD k hk
         exact r1.sep k id b ba jr (bZ.2 ⟨_,ho,by simp⟩) he (by rw[hm];exact hb)
        have r6:∀ b,own v'=some b→w0.heap.size≤b∧J.gp b∧∀ k,alive (l1.set id .dead) k=true→own (m k)≠some b:=by
         intro b hb
         rw[o1] at hb
         rcases h4 with h4 | h4
         ·rw[h4,←o3] at hb;exact hold b hb
         rw[h4] at hb;injection hb with hb;subst hb
         refine⟨r1.below.size,r1.sat.gp (Nat.le_refl _),fun k hk he=>?_⟩
         obtain⟨a,ha,qo⟩:=bZ.1 (dD k hk).2
         have:=((r1.obj k a ha).lt qo he).1;omega
        obtain⟨q1,q2,q3⟩:=r1.FC (v:=v') (lo:=l1.set id .dead) (e:=e') (size:=i.size) (els:=els++new) (xs:=xs++news) (by simp) oD
         (
          fun k a AY hk=>by
          rw[List.getElem?_set,if_neg ?_];exact hk
          rintro rfl;rw[ho] at hk;cases hk;cases AY)
         h3 (qD _ _ _ _ _ h1) (fun b hb=>hold b (by rw[o3];exact hb)) (fun b hb=>r1.sat.SI k1 (by rw[o3];exact hb)) r6 (by simpa using h2)
         (fun d hd=>by rcases List.mem_append.1 hd with h | h;exact k2 d h;exact h5 d h)
         (
          fun j u y dm hy=>by
          rw[K6,List.getElem?_append] at hy
          rw[List.getElem?_append] at dm
          have:xs.length=(flat els).length:=by rw[ql els (fun d hd=>(k2 d hd).1)];exact k1.1
          rw[this] at dm
          by_cases hj:j < (flat els).length
          ·rw[if_pos hj] at hy dm;exact k3 j u y dm hy
          rw[if_neg hj] at hy dm;exact h6 _ u y dm hy) o2
        rw[w8] at q1 q2 q3
        exact⟨_,v',w',J,_,rfl,h1,pS.trans q1,q2,q3⟩
       exact af.elim
      exact af.elim
     ·
      rename_i id xd
      split at af
      ·rename_i e' size els ho
       split at af
       ·rename_i iY
        obtain⟨rfl,qv,_⟩:=iY
        subst qv
        rw[if_pos ⟨rfl,rfl,w8.symm⟩]
        have cW:=hs.mono pS
        obtain⟨A,n,c,Mb,hm⟩:∃ A n c,vs = .slice A n c∧m id=vs:=by
         cases cW with
         | fQ A n c _ _ p1 p2 _=>exact⟨A,n,c,rfl,p2 (by simp[isRow,ho,AO.isRow])⟩
        obtain⟨xs,k1,k2,k3,k4⟩:=r1.obj id _ ho
        rw[hm] at k1 k4
        obtain⟨v',w',news,h1,h2,h3,h4,h5,h6⟩:=azH (ty:=ty) hE r1.sat hu hi oT.2 k1 rx oT.1 af.1 af.2 r1.below.size
        obtain⟨o1,A',n',c',dW⟩:=Na h2
        obtain⟨o3,_⟩:=Na k1
        have hY:id < l1.length:=(List.getElem?_eq_some_iff.1 ho).1
        have oD:∀ (k:Nat) a,(l1.set id .dead)[k]?=some a→a = .dead∨l1[k]?=some a:=by
         intro k a ha
         rw[List.getElem?_set] at ha
         split at ha
         ·first
           | (injection ha with ha;exact .inl ha.symm)
           | (split at ha<;>first | (injection ha with ha;exact .inl ha.symm) | cases ha)
         exact .inr ha
        have dD:∀ k,alive (l1.set id .dead) k=true→k≠id∧alive l1 k=true:=by
         intro k hk
         obtain⟨a,ha,qo⟩:=bZ.1 hk
         refine⟨?_,bZ.2 ⟨a,(oD k a ha).resolve_left qo,qo⟩⟩
         rintro rfl
         rw[List.getElem?_set,if_pos rfl,if_pos hY] at ha
         injection ha with ha;exact qo ha.symm
        have hold:∀ b,own vs=some b→w0.heap.size≤b∧∀ k,alive (l1.set id .dead) k=true→own (m k)≠some b:=by
         intro b hb
         refine⟨((r1.obj id _ ho).lt (by simp) (by rw[hm];exact hb)).2,fun k hk he=>?_⟩
         obtain⟨ba,jr⟩:=dD k hk
         exact r1.sep k id b ba jr (bZ.2 ⟨_,ho,by simp⟩) he (by rw[hm];exact hb)
        have r6:∀ b,own v'=some b→w0.heap.size≤b∧∀ k,alive (l1.set id .dead) k=true→own (m k)≠some b:=by
         intro b hb
         rw[o1] at hb
         rcases h4 with h4 | ⟨h4,_⟩
         ·rw[h4,←o3] at hb;exact hold b hb
         rw[h4] at hb;injection hb with hb;subst hb
         refine⟨r1.below.size,fun k hk he=>?_⟩
         obtain⟨a,ha,qo⟩:=bZ.1 (dD k hk).2
         have:=((r1.obj k a ha).lt qo he).1;omega
        have arR:∀ b,own v'=some b→I.le J→(∀ (o:Nat) u,J.cell b o=some u→(xs++news)[o]?=some u)∧J.mp b=none∧∀ o,(xs++news).length≤o→J.cell b o=none:=by
         intro b hb _
         rw[o1] at hb
         rcases h4 with h4 | ⟨h4,_⟩
         ·rw[h4,←o3] at hb
          obtain⟨q1,q2,q3⟩:=k4 b hb
          refine⟨fun o u hc=>?_,q1,fun o cv=>q3 o (by rw[List.length_append] at cv;omega)⟩
          rcases Nat.lt_or_ge o xs.length with aN | qZ
          ·have:=q2 o xs[o] (List.getElem?_eq_getElem aN)
           rw[hc] at this;injection this with this
           rw[List.getElem?_append_left aN,List.getElem?_eq_getElem aN,this]
          rw[q3 o qZ] at hc;cases hc
         rw[h4] at hb;injection hb with hb;subst hb
         have hn:=r1.sat.gp (Nat.le_refl _)
         exact⟨fun o u hc=>(by rw[hn.1 o] at hc;cases hc),hn.2,fun o _=>hn.1 o⟩
        obtain⟨J2,QV,arz,HJ,Xr⟩:∃ J2:aC,J.le J2∧(∀ b,J2.df b↔J.df b)∧(∀ b,own v'=some b→J2.mp b=none∧(∀ (o:Nat) u,(xs++news)[o]?=some u→J2.cell b o=some u)∧∀ o,(xs++news).length≤o→J2.cell b o=none)∧∀ b,own v'≠some b→J2.cell b=J.cell b∧J2.mp b=J.mp b:=by
         cases asI:own v' with
         | none=>exact⟨J,.refl J,fun _=>Iff.rfl,fun _ hb=>absurd hb (by simp),fun _ _=>⟨rfl,rfl⟩⟩
         | some b=>
          obtain⟨q1,q2,q3⟩:=arR b asI pS.eR
          refine⟨J.fG b (xs++news),⟨fun b' o u hc=>?_,fun _ _ h=>h,fun _ h=>h⟩,fun _=>Iff.rfl,fun b' bP=>?_,fun b' bP=>⟨?_,rfl⟩⟩
          ·by_cases hbb:b'=b
           ·subst hbb;simp only[aC.fG,if_true];rw[q1 o u hc]
           simp only[aC.fG,if_neg hbb];exact hc
          ·injection bP with bP;subst bP
           refine⟨q2,fun o u hu=>?_,fun o cv=>?_⟩
           ·simp only[aC.fG,if_true];rw[hu]
           simp only[aC.fG,if_true];rw[List.getElem?_eq_none cv];exact q3 o cv
          funext o
          simp only[aC.fG]
          rw[if_neg (fun e=>bP (by rw[e]))]
        have as7:eD w' J2:=by
         have arx:∀ b,own v'=some b→∀ (o:Nat) u,(xs++news)[o]?=some u→w'.cell? ⟨b,o,none⟩=some u:=by
          intro b hb o u hu
          have:=h2.cells (g:=b) (by rw[←o1];exact hb) o u hu
          rwa [Addr.add_lit,Nat.zero_add] at this
         have Yp:∀ b,(∃ o u,J.cell b o=some u)∨(∃ es,J.mp b=some es)∨J.df b→own v'≠some b→w'.heap[b]?=w.heap[b]?:=by
          intro b hb ba
          have aN:b < w.heap.size:=by
           rcases hb with ⟨o,u,hc⟩ | ⟨es,hc⟩ | hc
           ·exact r1.sat.lt hc
           ·exact r1.sat.wi hc
           exact r1.sat.tu hc
          rcases h4 with h4 | ⟨_,h4⟩
          ·exact h3.block b aN (fun he=>ba (by rw[o1,h4];exact he.symm))
          exact h4.block b aN (by simp)
         refine⟨fun b o u hc=>?_,fun b es hc=>?_,fun b hd=>?_,fun g d hg=>(r1.sat.dS g d hg).mono QV⟩
         ·by_cases hb:own v'=some b
          ·obtain⟨_,q2,q3⟩:=HJ b hb
           rcases Nat.lt_or_ge o (xs++news).length with aN | qZ
           ·have:=q2 o _ (List.getElem?_eq_getElem aN)
            rw[hc] at this;injection this with this
            exact arx b hb o u (by rw[List.getElem?_eq_getElem aN,this])
           rw[q3 o qZ] at hc;cases hc
          rw[(Xr b hb).1] at hc
          exact(World.cell?_of_block (w:=w) (a:=⟨b,o,none⟩) (Yp b (.inl ⟨o,u,hc⟩) hb)).trans (r1.sat.cell b o u hc)
         ·by_cases hb:own v'=some b
          ·rw[(HJ b hb).1] at hc;cases hc
          rw[(Xr b hb).2] at hc
          exact iT.to (Yp b (.inr (.inl ⟨es,hc⟩)) hb) (r1.sat.mp b es hc)
         have bg:J.df b:=by
          have:J2.df b→J.df b:=fun h=>(arz b).1 h
          exact this hd
         by_cases hb:own v'=some b
         ·exfalso
          rw[o1] at hb
          rcases h4 with h4 | ⟨h4,_⟩
          ·rw[h4,←o3] at hb;exact r1.sat.SI k1 hb bg
          rw[h4] at hb;injection hb with hb;have:=r1.sat.tu bg;omega
         exact(Yp b (.inr (.inr bg)) hb).trans (r1.sat.df b bg)
        have HP:∀ d∈els++new,d.cells.length=i.size∧∀ x∈d.cells,x.one=true:=fun d hd=>by rcases List.mem_append.1 hd with h | h;exact k2 d h;exact h5 d h
        have ahQ:∀ (j:Nat) u y,(xs++news)[j]?=some u→(flat (els++new))[j]?=some y→Rd J2 u y:=by
         intro j u y dm hy
         rw[K6,List.getElem?_append] at hy
         rw[List.getElem?_append] at dm
         have:xs.length=(flat els).length:=by rw[ql els (fun d hd=>(k2 d hd).1)];exact k1.1
         rw[this] at dm
         by_cases hj:j < (flat els).length
         ·rw[if_pos hj] at hy dm;exact(k3 j u y dm hy).mono QV
         rw[if_neg hj] at hy dm;exact(h6 _ u y dm hy).mono QV
        obtain⟨q1,q2,q3⟩:=r1.axV (v:=v') (row:=vs.ownBlock) (lo:=l1.set id .dead) (e:=e') (size:=i.size) (els:=els++new) (J:=J2) (by simp) oD
         (
          fun k a AY hk=>by
          rw[List.getElem?_set,if_neg ?_];exact hk
          rintro rfl;rw[ho] at hk;cases hk;cases AY)
         h3 (qD _ _ _ _ _ h1) (fun b hb=>hold b (by rw[o3];exact hb)) QV Xr as7 r6
         ⟨xs++news,by simpa using h2,HP,ahQ,fun b hb=>⟨(HJ b hb).1,(HJ b hb).2.1,(HJ b hb).2.2⟩⟩ ⟨A',n',c',dW⟩
        rw[w8] at q1 q2 q3
        refine⟨_,v',w',J2,_,rfl,h1,pS.trans q1,q2,?_⟩
        have dg:Rd J2 v' (.slice i.size (els++new)):=T8 (by simpa using h2) HP ahQ fun b hb=>(HJ b hb).2.1
        cases q3 with
        | row A n c _ z1 z2=>exact .fQ A n c _ _ z1 z2 dg
       exact af.elim
      exact af.elim
     exact af.elim
    exact af.elim
   exact af.elim
  exact af.elim
 exact af.elim
theorem ac9 {E:dh} {t:TypeId} {v:Value} {x:T} (h:aw I m L v x):aw I m L v (typed E t x):=by
 unfold typed
 split
 ·cases h;exact .ao _
 exact h
theorem UO {E:dh}:∀ (ts:List TypeId) (vs:List Value) (xs:List T),(∀ (i:Nat) v x,vs[i]?=some v→xs[i]?=some x→aw I m L v x)→(fm E ts xs).length=xs.length∧∀ (i:Nat) v x,vs[i]?=some v→(fm E ts xs)[i]?=some x→aw I m L v x
 | [],vs,xs,h=>by simp[fm];exact h
 | t::ts,vs,[],h=>by simp[fm]
 | t::ts,vs,x::xs,h=>by
  match vs with
  | []=>simp[fm];exact(UO (E:=E) ts [] xs (by simp)).1
  | v::vs=>
   obtain⟨h1,h2⟩:=UO (E:=E) ts vs xs (fun i v x hv hx=>h (i+1) v x (by simpa using hv) (by simpa using hx))
   simp only[fm]
   refine⟨by simp[h1],fun i u y hu hy=>?_⟩
   rcases i with _ | i
   ·simp at hu hy;subst hu;subst hy;exact ac9 (h 0 v x rfl rfl)
   simp at hu hy;exact h2 i u y hu hy
def kN (E:dh) (ρ:Operand→T) (o:Oper):Option (FuncId×List T):=match o.op with
 | .call c=>(match c.callee with
  | .value f=>(match ρ f with
   | .aR g ts=>some (g,fm E c.argTypes.toList (c.args.toList.map ρ)++ts)
   | .d (.fn g)=>some (g,fm E c.argTypes.toList (c.args.toList.map ρ))
   | .d (.aR g ds)=>some (g,fm E c.argTypes.toList (c.args.toList.map ρ)++ds.map .d)
   | _=>none)
  | _=>none)
 | _=>none
theorem anL {E:dh} {ρ ρ':Operand→T} {o:Oper} (h:∀ x∈o.op.operands,ρ x=ρ' x):kN E ρ o=kN E ρ' o:=by
 unfold kN
 split
 ·rename_i c ho
  split
  ·rename_i f hf
   have h1:=h f (by simp[ho,Op.operands,Call.operands,hf])
   have h2:c.args.toList.map ρ=c.args.toList.map ρ':=List.map_congr_left fun x hx=>h x (by simp[ho,Op.operands,Call.operands];right;simpa using hx)
   rw[h1,h2]
  rfl
 rfl
theorem Vz {E:dh} {g:FuncId} {ts:List T} (fb:Enters P g) (hr:∀ x∈o.op.operands,aw I m L (ρ x) (ρT x)) (h:kN E ρT o=some (g,ts)) :
  ∃ args:Array Value,(execOp ρ o).run P w = .ok (.enter g args) w∧args.size=ts.length∧∀ (i:Nat) v x,args[i]?=some v→ts[i]?=some x→aw I m L v x:=by
 unfold kN at h
 split at h
 ·rename_i c ho
  split at h
  ·rename_i f ep
   have hf:=hr f (by simp[ho,Op.operands,Call.operands,ep])
   have dV:∀ (i:Nat) v x,(c.args.toList.map ρ)[i]?=some v→(c.args.toList.map ρT)[i]?=some x→aw I m L v x:=by
    intro i v x hv hx
    rw[List.getElem?_map] at hv hx
    cases ha:c.args.toList[i]? with
    | none=>simp[ha] at hv
    | some a=>
     simp[ha] at hv hx
     subst hv;subst hx
     refine hr a ?_
     simp only[ho,Op.operands,Call.operands,ep]
     have:=List.mem_of_getElem? ha
     simp at this ⊢
     exact .inr this
   obtain⟨ke,CH⟩:=UO (E:=E) c.argTypes.toList _ _ dV
   generalize pn:ρ f=vf at hf
   split at h
   ·rename_i g' cs hT
    rw[hT] at hf
    injection h with h;injection h with h1 h2;subst h1
    cases hf with
    | aR _ vs _ q1 q2=>
     refine⟨c.args.map ρ++vs,?_,?_,fun i v x hv hx=>?_⟩
     ·unfold execOp
      simp only[ho,resolve,ep,pn,Deferred.ofValue,Sem.run_bind,Sem.run_pure,Result.andThen_ok,invoke]
      simpa using fb (c.args.map ρ++vs) w
     ·rw[←h2];simp[ke,q1]
     rw[←h2] at hx
     by_cases hi:i < (c.args.map ρ).size
     ·rw[Array.getElem?_append_left hi] at hv
      rw[List.getElem?_append_left (by rw[ke];simpa using hi)] at hx
      exact CH i v x (by simpa using hv) hx
     rw[Array.getElem?_append_right (by omega)] at hv
     rw[List.getElem?_append_right (by rw[ke];simpa using hi)] at hx
     rw[ke] at hx
     simp at hv hx hi
     exact q2 _ v x hv hx
   ·rename_i g' hT
    rw[hT] at hf
    injection h with h;injection h with h1 h2;subst h1
    have:=dp hf
    cases this
    refine⟨c.args.map ρ,?_,by rw[←h2,ke];simp,fun i v x hv hx=>CH i v x (by simpa using hv) (by rw[h2];exact hx)⟩
    unfold execOp
    simp only[ho,resolve,ep,pn,Deferred.ofValue,Sem.run_bind,Sem.run_pure,Result.andThen_ok,invoke]
    simpa using fb (c.args.map ρ) w
   ·rename_i g' cs hT
    rw[hT] at hf
    injection h with h;injection h with h1 h2;subst h1
    have LM:=dp hf
    cases LM with
    | aR _ vs _ q1 q2=>
     refine⟨c.args.map ρ++vs,?_,?_,fun i v x hv hx=>?_⟩
     ·unfold execOp
      simp only[ho,resolve,ep,pn,Deferred.ofValue,Sem.run_bind,Sem.run_pure,Result.andThen_ok,invoke]
      simpa using fb (c.args.map ρ++vs) w
     ·rw[←h2];simp[ke,q1]
     rw[←h2] at hx
     by_cases hi:i < (c.args.map ρ).size
     ·rw[Array.getElem?_append_left hi] at hv
      rw[List.getElem?_append_left (by rw[ke];simpa using hi)] at hx
      exact CH i v x (by simpa using hv) hx
     rw[Array.getElem?_append_right (by omega)] at hv
     rw[List.getElem?_append_right (by rw[ke];simpa using hi)] at hx
     rw[ke,List.getElem?_map] at hx
     simp only[List.length_map,Array.length_toList] at hx
     simp only[Array.size_map] at hv
     cases hd:cs[i - c.args.size]? with
     | none=>rw[hd] at hx;simp at hx
     | some d=>rw[hd] at hx;simp at hx;subst hx;exact .d _ _ (q2 _ v d hv hd)
   cases h
  cases h
 cases h
theorem ada {v:Value} {t:T} (h:aw I m L v t):aw I m L v (unbox t):=by
 unfold unbox
 split
 ·have:=dp h
  cases this with
  | box _ _ val h1 h2 h3=>
   rename_i d b
   have:=aw.fy (I:=I) (m:=m) (l:=L) b 0 d.cells.length [d] 0 0 val (by simp) (fun x hx=>by simp at hx;subst hx;exact⟨rfl,h1⟩) (fun j hj=>by rw[Nat.zero_add];exact h2 j (by simpa using hj)) (fun j x hx=>h3 j x (by simpa [flat] using hx))
   simpa using this
 exact h
theorem an5 {t:T} {d:D} (h:fV t=some d):t = .d d:=by
 unfold fV at h;split at h
 ·injection h with h;subst h;rfl
 cases h
theorem aiV:∀ {ts:List T} {ds:List D},ts.mapM fV=some ds→ts=ds.map .d
 | [],ds,h=>by simp at h;subst h;rfl
 | t::ts,ds,h=>by
  rw[List.mapM_cons] at h
  cases ht:fV t with
  | none=>simp[ht] at h
  | some d=>
   cases Yr:ts.mapM fV with
   | none=>simp[ht,Yr] at h
   | some zi=>
    simp[ht,Yr] at h
    subst h
    rw[an5 ht,aiV Yr];rfl
theorem anN {v:Value} {g:FuncId} {ts:List T} (h:aw I m L v (.aR g ts)):aw I m L v (iW g ts):=by
 unfold iW
 split
 ·rename_i ds oU
  have:=aiV oU
  subst this
  cases h with
  | aR _ vs _ q1 q2=>
   exact .d _ _ (.aR _ _ _ (by simpa using q1) fun i v d hv hd=>dp (q2 i v (.d d) hv (by simp[hd])))
 exact h
theorem anz (hV:bO P V) (aq:aI w0 I0 w I m L) (hc:jm l L) {g:FuncId} {ts:List T} (hr:∀ x∈o.op.operands,aw I m L (ρ x) (ρT x)) (fW:kN V.E ρT o=some (g,ts))
  (af:(iH V.C g l ts).ob):cy P w0 I0 o ρ w I m l L nid (iH V.C g l ts):=by
 unfold iH at af ⊢
 split at af
 ·rename_i ds l' hd
  split at af
  ·rename_i x ob hC
   obtain⟨fb,ym⟩:=hV.C g ds x ob hC af
   obtain⟨args,dL,hlen,dV⟩:=Vz (P:=P) (w:=w) (ρ:=ρ) fb hr fW
   have ahv:args.toList.length=ts.length:=by simpa using hlen
   have CH:∀ (i:Nat) v x,args.toList[i]?=some v→ts[i]?=some x→aw I m L v x:=fun i v x hv hx=>dV i v x (by simpa using hv) hx
   have main:∀ (L':List AO) (J:aC),Le I m L J m L'→aI w0 I0 w J m L'→args.toList.length=ds.length→(∀ (i:Nat) v d,args.toList[i]?=some v→ds[i]?=some d→Rd J v d) →
     Calls P g args w fun e Jx=>∃ v,e = .returned v∧∃ J',Le I m L J' m L'∧aI w0 I0 Jx J' m L'∧aw J' m L' v (.d x):=by
    intro L' J hle oE iK dg
    refine(ym w J args oE.sat (by simpa using iK) (fun i v d hv bg=>dg i v d (by simpa using hv) bg)).mono ?_
    rintro e Jx ⟨v,J',he,hb,hx,hs,hrv⟩
    obtain⟨q1,q2⟩:=oE.call hb hx hs
    exact⟨v,he,J',hle.trans q2,q1,.d _ _ hrv⟩
   unfold cy
   by_cases hq:ts.all (gK l)=true
   ·simp only[if_pos hq,dL,cz]
    have hL:=ae3 ts hc hq hd
    obtain⟨J,pS,r1,w8,dg,_⟩:=DQ ts L I _ ds L aq ahv CH hL
    exact(main L J pS r1 w8 dg).mono fun e Jx ⟨v,he,J',h⟩=>⟨v,he,J',h⟩
   simp only[if_neg hq,dL,cz]
   rintro rfl hn
   obtain⟨J,pS,r1,w8,dg,_⟩:=DQ ts L I _ ds l' aq ahv CH hd
   exact(main l' J pS r1 w8 dg).mono fun e Jx ⟨v,he,J',h1,h2,h3⟩=>⟨v,he,J',m,h1,h2,h3⟩
  exact af.elim
 exact af.elim
theorem afg (hV:bO P V) (aq:aI w0 I0 w I m L) (hc:jm l L) {g:FuncId} {ts:List T} (hr:∀ x∈o.op.operands,aw I m L (ρ x) (ρT x)) (fW:kN V.E ρT o=some (g,ts))
  (af:(il V g l ts).ob):cy P w0 I0 o ρ w I m l L nid (il V g l ts):=by
 unfold il at af ⊢
 split at af
 ·rename_i t l' ob hF
  obtain⟨fb,ym⟩:=hV.F g _ l _ hF af
  obtain⟨args,dL,hlen,dV⟩:=Vz (P:=P) (w:=w) (ρ:=ρ) fb hr fW
  unfold cy
  rintro rfl hn
  simp only[dL,cz]
  exact(ym w0 I0 w I m args aq hlen dV).mono fun e w' ⟨v,he,J,m',h1,h2,h3⟩=>⟨v,he,J,m',h1,h2,h3⟩
 exact anz hV aq hc hr fW af
theorem ale {I:aC} {v:Value} {s:Nat} {els:List D} (h:Rd I v (.slice s els)):∃ A c,v = .slice A els.length c:=by
 generalize hD:D.slice s els=dd at h
 cases h<;>first | (cases hD;done) | skip
 ·injection hD with _ hD;subst hD;exact⟨_,_,rfl⟩
 rename_i q1 _ _ _ _ _
 injection hD with _ hD;subst hD;exact⟨_,_,by rw[q1]⟩
theorem aai (aq:aI w0 I0 w I m L) (hc:jm l L) {v:Value} {t:T} {ks vs:List D} (hx:aw I m L v t) (hm:mapOf l t=some (ks,vs)) :
  ∃ es:Array MapEntry,es.size=ks.length∧es.size=vs.length∧(∀ (i:Nat) (e:MapEntry) (d:D),es[i]?=some e→ks[i]?=some d→Rd I e.key d)∧(∀ (i:Nat) (e:MapEntry) (d:D),es[i]?=some e→vs[i]?=some d→Rd I e.val d) ∧
   ((v = .map none∧es = #[])∨∃ b di,v = .map (some b)∧w.heap[b]?=some (.map es di)):=by
 unfold mapOf at hm
 split at hm
 ·injection hm with hm;injection hm with h1 h2;subst h1;subst h2
  have:=dp hx
  cases this with
  | Iy=>exact⟨#[],rfl,rfl,by simp,by simp,.inl ⟨rfl,rfl⟩⟩
  | map b es _ _ q1 q2 q3 q4 q5=>
   have hh:=aq.sat.mp b es q1
   exact⟨es.1,q2,q3,q4,q5,.inr ⟨b,es.2,rfl,hh.1⟩⟩
 ·rename_i id
  split at hm
  ·rename_i ks' vs' hl
   injection hm with hm;injection hm with h1 h2;subst h1;subst h2
   obtain⟨b,es,q1,q2,q3,q4,q5,q6,q7,q8⟩:=aq.obj id _ (hc.get hl)
   cases hx with
   | map r _ p1 p2=>
    have:=p2 (by unfold isRow;rw[hc.get hl];rfl)
    rw[q1] at this
    exact⟨es.1,q4,q5,q6,q7,.inr ⟨b,es.2,this.symm,q3.1⟩⟩
  ·rename_i ks' vs' hl
   injection hm with hm;injection hm with h1 h2;subst h1;subst h2
   obtain⟨b,es,q1,q2,q3,q4,q5,q6,q7,q8⟩:=aq.obj id _ (hc.get hl)
   cases hx with
   | map r _ p1 p2=>
    have:=p2 (by unfold isRow;rw[hc.get hl];rfl)
    rw[q1] at this
    exact⟨es.1,q4,q5,q6,q7,.inr ⟨b,es.2,this.symm,q3.1⟩⟩
  cases hm
 cases hm
theorem auY (hE:cP P V.E) (aq:aI w0 I0 w I m L) (hc:jm l L) {v:Value} {x:T} {ty t:TypeId} (hx:aw I m L v x) (af:(iA V.E t l x).ob) :
  (iA V.E t l x).bI = .none∧∃ u,(Builtin.len_ #[t] ty #[v]).run P w = .ok u w∧aw I m L u (iA V.E t l x).t:=by
 have fin:∀ (A:Option Addr) (n c:Nat) (e:TypeId),P.underlying t=some (.slice e)→(Builtin.len_ #[t] ty #[.slice A n c]).run P w = .ok (.int .i64 n) w:=by
  intro A n c e hu
  simp[Builtin.len_,run_underlying hu,goInt]
 unfold iA at af ⊢
 split at af
 ·rename_i hs
  have hu:=adb hE hs
  split at af
  ·have:=dp hx;cases this
   exact⟨rfl,_,by simp[Builtin.len_,run_underlying hu,goInt],.d _ _ (.int _ _)⟩
  exact af.elim
 ·rename_i e hs
  have hu:=uo hE hs
  split at af
  ·rename_i s els
   obtain⟨A,c,rfl⟩:=ale (dp hx)
   exact⟨rfl,_,fin _ _ _ _ hu,.d _ _ (.int _ _)⟩
  ·cases hx;exact⟨rfl,_,fin _ _ _ _ hu,.d _ _ (.int _ _)⟩
  ·rename_i id
   have go:∀ e size els,l[id]?=some (.row e size els)∨l[id]?=some (.cF e size els)→∃ A c,v = .slice A els.length c:=by
    intro e size els ho
    have cv:L[id]?=some (.row e size els)∨L[id]?=some (.cF e size els):=by rcases ho with ho | ho;exact .inl (hc.get ho);exact .inr (hc.get ho)
    cases hx with
    | row A n c _ p1 p2=>
     have hm:=p2 (by unfold isRow;rcases cv with h | h<;>simp[h,AO.isRow])
     have:∃ xs,w.ownsRow w0.heap.size e size (m id) els.length xs:=by
      rcases cv with h | h
      ·obtain⟨xs,k1,_⟩:=aq.obj id _ h;exact⟨xs,k1⟩
      obtain⟨xs,k1,_⟩:=aq.obj id _ h;exact⟨xs,k1⟩
     obtain⟨xs,k1⟩:=this
     rw[hm] at k1
     rcases k1.2 with ⟨q,q'⟩ | ⟨g,cap,cur,q,_⟩
     ·injection q with q1 q2 q3;rw[q',←q2];exact⟨_,_,rfl⟩
     injection q with q1 q2 q3;rw[←q2];exact⟨_,_,rfl⟩
   split at af
   ·rename_i e size els ho
    obtain⟨A,c,rfl⟩:=go e size els (.inl ho)
    exact⟨rfl,_,fin _ _ _ _ hu,.d _ _ (.int _ _)⟩
   ·rename_i e size els ho
    obtain⟨A,c,rfl⟩:=go e size els (.inr ho)
    exact⟨rfl,_,fin _ _ _ _ hu,.d _ _ (.int _ _)⟩
   exact af.elim
  exact af.elim
 ·rename_i kt e hs
  have hu:P.underlying t=some (.map kt e):=by
   obtain⟨x,z',_,_,_,_,_,_,h7,_⟩:=jj (hE t _ hs)
   simp only[sS] at h7
   split at h7
   ·rename_i k' e' he;simp at h7;obtain⟨rfl,rfl⟩:=h7;exact he
   cases h7
  split at af
  ·rename_i ks vs hm
   obtain⟨es,h1,_,_,_,h2⟩:=aai aq hc hx hm
   try simp only[hm]
   rcases h2 with ⟨rfl,rfl⟩ | ⟨b,di,rfl,hh⟩
   ·refine⟨rfl,_,by simp[Builtin.len_,run_underlying hu,goInt];rfl,?_⟩
    have:ks.length=0:=by simpa using h1.symm
    rw[this];exact .d _ _ (.int _ _)
   refine⟨rfl,.int .i64 es.size,by simp[Builtin.len_,run_underlying hu,goInt,MapKept.run_getObj_map hh],?_⟩
   rw[h1];exact .d _ _ (.int _ _)
  exact af.elim
 exact af.elim
end
end Go.an
namespace Go.an
open Go Go.RowKit
variable [ck]
section
variable {P:Program} {V:Env} {w0 w w':World} {I0 I:aC} {m:Nat→Value} {l L:List AO} {nid:Nat} {o:Oper} {ρ:Operand→Value} {ρT:Operand→T}
theorem Le.setKind {id:Nat} {a a':AO} (h:l[id]?=some a) (hv:a'.isVar=a.isVar) (hr:a'.isRow=a.isRow)
  (ja:∀ e size els,a' = .row e size els∨a' = .cF e size els→∃ els',a = .row e size els'∨a = .cF e size els'):Le I m l I m (l.set id a'):=by
 refine⟨.refl I,by simp,fun k _ hk=>⟨(xt h hv.symm k).trans hk,rfl⟩,fun k _ hk=>⟨(xr h hr.symm k).symm.trans hk,rfl⟩,fun k e size els hk hh=>?_⟩
 by_cases gP:k=id
 ·subst gP
  rw[List.getElem?_set,if_pos rfl,if_pos (List.getElem?_eq_some_iff.1 h).1] at hh
  simp only[Option.some.injEq] at hh
  obtain⟨els',q⟩:=ja e size els hh
  exact⟨els',by rw[h];rcases q with rfl | rfl<;>simp⟩
 rw[List.getElem?_set,if_neg (Ne.symm gP)] at hh;exact⟨els,hh⟩
theorem aI.Ag (aq:aI w0 I0 w I m l) {id b:Nat} {a a':AO} (ho:l[id]?=some a) (hd:a ≠ .dead) (cZ:own (m id)=some b) (ca:I.gp b) (hv:a'.isVar=a.isVar) (hrw:a'.isRow=a.isRow)
  (hle:Le I m l I m (l.set id a')) (X4:w'.os=w.os) (atb:w'.tape=w.tape) (oW:w'.output=w.output) (A3:w.drawn≤w'.drawn) (qv:w.heap.size≤w'.heap.size) (yy:∀ k,k≠b→w'.heap[k]?=w.heap[k]?)
  (fB:rI w0.heap.size w' I m (l.set id a') (m id) a'):aI w0 I0 w' I m (l.set id a'):=by
 have aN:=(aq.obj id a ho).lt hd cZ
 have hY:id < l.length:=(List.getElem?_eq_some_iff.1 ho).1
 have dD:alive l id=true:=bZ.2 ⟨_,ho,hd⟩
 refine⟨aq.below.trans ⟨X4,atb,oW,qv,fun k hk=>yy k (by omega),fun _=>A3⟩,⟨fun b' q u hc=>?_,fun b' es hc=>?_,fun b' dZ=>(yy b' (fun e=>by subst e;exact(aq.obj id a ho).yO aq.sat hd cZ dZ)).trans (aq.sat.df b' dZ),aq.sat.dS⟩,aq.ext,fun j q hj=>?_,fun i j b' cj hi hj cY cT=>?_⟩
 ·have ba:b'≠b:=by rintro rfl;rw[ca.1] at hc;cases hc
  exact(World.cell?_of_block (w:=w) (a:=⟨b',q,none⟩) (yy b' ba)).trans (aq.sat.cell b' q u hc)
 ·have ba:b'≠b:=by rintro rfl;rw[ca.2] at hc;cases hc
  have hh:=aq.sat.mp b' es hc
  exact iT.to (yy b' ba) hh
 ·by_cases ec:j=id
  ·subst ec
   rw[List.getElem?_set,if_pos rfl,if_pos hY] at hj
   injection hj with hj;subst hj;exact fB
  rw[List.getElem?_set,if_neg (Ne.symm ec)] at hj
  by_cases LI:q = .dead
  ·subst LI;trivial
  refine(aq.obj j q hj).pR hle (fun b' bP=>yy b' ?_) (fun _ _=>⟨rfl,rfl⟩)
  rintro rfl
  exact aq.sep j id b' ec (bZ.2 ⟨q,hj,LI⟩) dD bP cZ
 refine aq.sep i j b' cj ?_ ?_ cY cT
 ·unfold alive at hi ⊢;rwa [xt ho hv.symm,xr ho hrw.symm] at hi
 unfold alive at hj ⊢;rwa [xt ho hv.symm,xr ho hrw.symm] at hj
theorem Qt {kk:IntKind} {n:Int}:∀ (es:List MapEntry) (ks:List D) (i:Nat),es.length=ks.length→(∀ (j:Nat) (e:MapEntry) (d:D),es[j]?=some e→ks[j]?=some d→Rd I e.key d)→Bs kk ks=true →
  (fe n ks i=none∧Instr.findNow (.int kk) (.int kk n) es i=some none∧∀ e∈es,e.key ≠ .int kk n)∨∃ j e,fe n ks i=some (i+j)∧es[j]?=some e∧e.key = .int kk n∧ks[j]?=some (.int kk n)∧Instr.findNow (.int kk) (.int kk n) es i=some (some (i+j,e.val))
 | [],[],i,_,_,_=> .inl ⟨rfl,rfl,by simp⟩
 | e::es,d::ks,i,hl,hr,hk=>by
  simp only[Bs,List.all_cons,Bool.and_eq_true] at hk
  obtain⟨LU,HU⟩:=hk
  have h0:=hr 0 e d rfl rfl
  split at LU
  ·rename_i k' a
   have jr:k'=kk:=by simpa using LU
   subst jr
   have pP:e.key = .int k' a:=by generalize e.key=z at h0;cases h0;rfl
   by_cases ub:n=a
   ·subst ub
    refine .inr ⟨0,e,by simp[fe],rfl,pP,rfl,?_⟩
    simp[Instr.findNow,Instr.sameNow,pP]
   rcases Qt (kk:=k') (n:=n) es ks (i+1) (by simpa using hl) (fun j e d h1 h2=>hr (j+1) e d (by simpa using h1) (by simpa using h2)) HU with ⟨h1,h2,h6⟩ | ⟨j,e',h1,h2,h3,h4,h5⟩
   ·exact .inl ⟨by simp[fe,ub,h1],by simp only[Instr.findNow,Instr.sameNow,pP,if_true,beq_eq_false_iff_ne.2 ub,h2],fun x hx=>by
     rcases List.mem_cons.1 hx with rfl | hx
     ·rw[pP];intro he;injection he with _ he;exact ub he.symm
     exact h6 x hx⟩
   refine .inr ⟨j+1,e',by simp only[fe,if_neg ub,h1];congr 1;omega,by simpa using h2,h3,by simpa using h4,?_⟩
   simp only[Instr.findNow,Instr.sameNow,pP,if_true,beq_eq_false_iff_ne.2 ub,h5]
   congr 3;omega
  cases LU
theorem aaj (hE:cP P V.E) {t:TypeId} {kk:IntKind} {i:TI} (h:iD V.E t=some (kk,i)):∃ kt e,P.underlying t=some (.map kt e)∧P.underlying kt=some (.int kk)∧V.E e=some i:=by
 unfold iD at h
 split at h
 ·rename_i kt e ht
  split at h
  ·rename_i zU i' h1 h2
   injection h with h;injection h with e1 e2;subst e1;subst e2
   obtain⟨x,z',_,_,_,_,_,_,h7,_⟩:=jj (hE t _ ht)
   obtain⟨x',z'',_,_,_,_,_,_,Lu,_⟩:=jj (hE kt _ h1)
   refine⟨kt,e,?_,?_,h2⟩
   ·simp only[sS] at h7
    split at h7
    ·rename_i k' e' he;simp at h7;obtain⟨rfl,rfl⟩:=h7;exact he
    cases h7
   simp only[sS] at Lu
   split at Lu
   ·rename_i k' he;simp at Lu;subst Lu;exact he
   cases Lu
  cases h
 cases h
theorem RH {t:T} {k:IntKind} {n:Int} {v:Value} (h:cX t=some (k,n)) (hr:aw I m L v t):v = .int k n:=by
 unfold cX at h
 split at h
 ·injection h with h;injection h with h1 h2;subst h1;subst h2
  have:=dp hr;cases this;rfl
 cases h
theorem afB {ds:List D} {j:Nat} {d:D} (h:ds[j]?=some d):jU ds j=d:=by simp[jU,h]
theorem am2 {z:Value} {i:TI} (h1:rF z.cells.toList i.zero=true) (h2:yI z=i.desc.agg):Rd I z (dG i.desc.agg i.zero):=by
 obtain⟨q1,q2,q3⟩:=As I _ _ h1
 unfold dG
 cases z with
 | agg cs=>
  rw[←h2]
  simp only[yI,if_true]
  exact .agg _ _ (by simpa [Value.cells] using q1) q2 (fun i v d hv hd=>q3 i v d (by simpa [Value.cells] using hv) hd)
 | _=>
  rw[←h2]
  simp only[yI,Bool.false_eq_true,if_false]
  match hz:i.zero,q1 with
  | [d],_=>exact q3 0 _ d (by simp[Value.cells]) (by simp[hz])
  | [],q1=>simp[Value.cells] at q1
  | _::_::_,q1=>simp[Value.cells] at q1
theorem look_ok (hE:cP P V.E) (aq:aI w0 I0 w I m L) (hc:jm l L) {t:TypeId} {x k:Value} {tx tk:T} {ok:Bool} (hx:aw I m L x tx) (hk:aw I m L k tk) (af:(ff V.E t l tx tk ok).ob) :
  (ff V.E t l tx tk ok).bI = .none∧∃ u,(Instr.lookup t x k ok).run P w = .ok u w∧aw I m L u (ff V.E t l tx tk ok).t:=by
 unfold ff at af ⊢
 split at af
 ·rename_i kk i ks vs zU n h1 h2 h3
  have:=RH h3 hk;subst this
  obtain⟨kt,e,u1,u2,u3⟩:=aaj hE h1
  obtain⟨es,s1,s2,r1,r2,r3⟩:=aai aq hc hx h2
  obtain⟨z,z1,z2,z3,z4⟩:=Ud hE u3 w
  split at af
  ·rename_i yu;subst yu
   simp only[if_true]
   have qX:∀ e:Bool,(Instr.checkKey e 10000 kt (.int kk n)).run P w = .ok () w:=fun e=>MapKept.run_checkKey (d:= .int kk) (n:=9999) u2 (by simp[MapKept.IsKey]) e
   have dL:∀ r,Instr.findNow (.int kk) (.int kk n) es.toList 0=some r→(Instr.lookup t x (.int kk n) ok).run P w = .ok (if ok then .tuple #[match r with | some (_,v)=>v | none=>z,.bool r.isSome] else match r with | some (_,v)=>v | none=>z) w:=by
    intro r hr
    have hf:=MapKept.run_findKey (w:=w) u2 hr
    unfold Instr.lookup
    rcases r3 with ⟨rfl,rfl⟩ | ⟨b,di,rfl,hh⟩
    ·simp only[Sem.run_bind,run_underlying u1,Result.andThen_ok,Sem.run_pure,qX,hf]
     cases r<;>simp[z1]<;>split<;>simp
    simp only[Sem.run_bind,run_underlying u1,Result.andThen_ok,Sem.run_pure,MapKept.run_getObj_map hh,qX,hf]
    cases r<;>simp[z1]<;>split<;>simp
   rcases Qt (kk:=kk) (n:=n) es.toList ks 0 (by simpa using s1) (fun j e d q1 q2=>r1 j e d (by simpa using q1) q2) (by split at af<;>exact af) with ⟨q1,q2,_⟩ | ⟨j,e',q1,q2,q3,q4,q5⟩
   ·simp only[q1]
    refine⟨by trivial,_,dL _ q2,?_⟩
    have hz:=am2 (I:=I) z2 z3
    cases ok
    ·exact .d _ _ hz
    exact .d _ _ (.bn _ _ rfl fun i v d hv hd=>by
     rcases i with _ | _ | i
     ·simp at hv hd;subst hv;subst hd;exact hz
     ·simp at hv hd;subst hv;subst hd;exact .bool _
     simp at hv)
   simp only[q1,Nat.zero_add]
   refine⟨by trivial,_,dL _ q5,?_⟩
   have hj:j < vs.length:=by rw[←s2];have:=(List.getElem?_eq_some_iff.1 q2).1;simpa using this
   have hv:=r2 j e' _ (by simpa using q2) (List.getElem?_eq_getElem hj)
   rw[afB (List.getElem?_eq_getElem hj)]
   cases ok
   ·exact .d _ _ hv
   exact .d _ _ (.bn _ _ rfl fun i v d dW hd=>by
    rcases i with _ | _ | i
    ·simp at dW hd;subst dW;subst hd;exact hv
    ·simp at dW hd;subst dW;subst hd;exact .bool _
    simp at dW)
  exact af.elim
 exact af.elim
theorem stays (kk:IntKind) (n:Int) (w:World):(Instr.keyThatStays (.int kk n) (.int kk n)).run P w = .ok (.int kk n) w:=by
 unfold Instr.keyThatStays
 have:Instr.sameBits 10000 (.int kk n) (.int kk n)=true:=by simp[Instr.sameBits]
 rw[this];rfl
theorem axZ (
        hE:cP P V.E) (aq:aI w0 I0 w I m l) {t:TypeId} {x k v:Value} {tx tk tv:T} (hx:aw I m l x tx) (hk:aw I m l k tk) (hv:aw I m l v tv) (af:(gn V.E t l tx tk tv).ob) :
  ∃ l' w',(gn V.E t l tx tk tv).bI = .bG l'∧(Instr.mapUpdate t x k v).run P w = .ok () w'∧Le I m l I m l'∧aI w0 I0 w' I m l':=by
 unfold gn at af ⊢
 split at af
 ·rename_i kk i id zU n d h1 h3 h4
  have:=RH h3 hk;subst this
  have hd:=T9 hv h4
  obtain⟨kt,e,u1,u2,u3⟩:=aaj hE h1
  split at af
  ·rename_i yu;subst yu
   simp only[if_true]
   split at af
   ·rename_i ks vs hl
    obtain⟨b,⟨es,di⟩,q1,q2,q3,s1,s2,r1,r2,ca⟩:=aq.obj id _ hl
    replace q3:w.heap[b]?=some (.map es di)∧MapKept.Stamped es di:=q3
    simp only at s1 s2 r1 r2
    have Me:x = .map (some b):=by
     cases hx with
     | map r _ p1 p2=>
      have:=p2 (by unfold isRow;rw[hl];rfl)
      rw[q1] at this;exact this.symm
    subst Me
    have qX:∀ e:Bool,(Instr.checkKey e 10000 kt (.int kk n)).run P w = .ok () w:=fun e=>MapKept.run_checkKey (d:= .int kk) (n:=9999) u2 (by simp[MapKept.IsKey]) e
    have cZ:own (m id)=some b:=by rw[q1];rfl
    rcases Qt (kk:=kk) (n:=n) es.toList ks 0 (by simpa using s1) (fun j e d q1 q2=>r1 j e d (by simpa using q1) q2) af with ⟨p1,p2,p6⟩ | ⟨j,e',p1,p2,p3,p4,p5⟩
    ·simp only[p1]
     have hf:=MapKept.run_findKey (w:=w) u2 p2
     have j9:=MapKept.run_setObj_map (P:=P) (.map (es.push { key:= .int kk n,val:=v,born:=di }) (di+1)) q3.1
     obtain⟨g1,g2⟩:=MapKept.heap_set (o':= .map (es.push { key:= .int kk n,val:=v,born:=di }) (di+1)) q3.1
     refine⟨_,{ w with heap:=w.heap.setIfInBounds b (.map (es.push { key:= .int kk n,val:=v,born:=di }) (di+1)) },rfl,?_,?_,?_⟩
     ·unfold Instr.mapUpdate
      simp only[Sem.run_bind,run_underlying u1,Result.andThen_ok,MapKept.run_getObj_map q3.1,qX,hf,j9]
     ·exact Le.setKind hl rfl rfl (by simp)
     refine aq.Ag hl (by simp) cZ ca rfl rfl (Le.setKind hl rfl rfl (by simp)) rfl rfl rfl (Nat.le_refl _) (by simp) (fun k hk=>g2 k hk) ?_
     refine⟨b,(es.push { key:= .int kk n,val:=v,born:=di },di+1),q1,q2,⟨g1,MapKept.stamped_push q3.2 (by simpa using p6)⟩,by simp[s1],by simp[s2],fun i e d he bg=>?_,fun i e d' he bg=>?_,ca⟩
     ·rw[Array.getElem?_push] at he
      split at he
      ·injection he with he;subst he
       rename_i hi;subst hi
       rw[s1,List.getElem?_append_right (Nat.le_refl _)] at bg;simp at bg;subst bg;exact .int _ _
      have hi:i < ks.length:=by have:=(Array.getElem?_eq_some_iff.1 he).1;omega
      rw[List.getElem?_append_left hi] at bg;exact r1 i e d he bg
     rw[Array.getElem?_push] at he
     split at he
     ·injection he with he;subst he
      rename_i hi;subst hi
      rw[s2,List.getElem?_append_right (Nat.le_refl _)] at bg;simp at bg;subst bg;exact hd
     have hi:i < vs.length:=by have:=(Array.getElem?_eq_some_iff.1 he).1;omega
     rw[List.getElem?_append_left hi] at bg;exact r2 i e d' he bg
    simp only[p1,Nat.zero_add]
    rw[Nat.zero_add] at p5
    have hf:=MapKept.run_findKey (w:=w) u2 p5
    have vU:es[j]?=some e':=by simpa using p2
    have j9:=MapKept.run_setObj_map (P:=P) (.map (es.modify j fun e=>{ e with key:= .int kk n,val:=v }) di) q3.1
    obtain⟨g1,g2⟩:=MapKept.heap_set (o':= .map (es.modify j fun e=>{ e with key:= .int kk n,val:=v }) di) q3.1
    refine⟨_,{ w with heap:=w.heap.setIfInBounds b (.map (es.modify j fun e=>{ e with key:= .int kk n,val:=v }) di) },rfl,?_,Le.setKind hl rfl rfl (by simp),?_⟩
    ·unfold Instr.mapUpdate
     simp only[Sem.run_bind,run_underlying u1,Result.andThen_ok,MapKept.run_getObj_map q3.1,qX,hf,vU,Option.map_some,Option.getD_some,p3,stays,j9]
    refine aq.Ag hl (by simp) cZ ca rfl rfl (Le.setKind hl rfl rfl (by simp)) rfl rfl rfl (Nat.le_refl _) (by simp) (fun k hk=>g2 k hk) ?_
    refine⟨b,(es.modify j fun e=>{ e with key:= .int kk n,val:=v },di),q1,q2,⟨g1,MapKept.stamped_modify q3.2 j _ (fun _ _=>rfl) (fun x hx hj=>by rw[vU] at hj;injection hj with hj;subst hj;exact p3.symm)⟩,by simp[s1],by simp[s2],fun i e d he bg=>?_,fun i e d' he bg=>?_,ca⟩
    ·rw[Array.getElem?_modify] at he
     split at he
     ·rename_i hi;subst hi
      rw[vU] at he;simp at he;subst he
      rw[p4] at bg;injection bg with bg;subst bg;exact .int _ _
     exact r1 i e d he bg
    rw[Array.getElem?_modify] at he
    split at he
    ·rename_i hi;subst hi
     rw[vU] at he;simp at he;subst he
     have hj:j < vs.length:=by rw[←s2];exact(Array.getElem?_eq_some_iff.1 vU).1
     rw[List.getElem?_set,if_pos rfl,if_pos hj] at bg
     injection bg with bg;subst bg;exact hd
    rename_i ba
    rw[List.getElem?_set,if_neg ba] at bg;exact r2 i e d' he bg
   exact af.elim
  exact af.elim
 exact af.elim
theorem an7 (hE:cP P V.E) (aq:aI w0 I0 w I m l) {t t2 ty:TypeId} {x k:Value} {tx tk:T} (hx:aw I m l x tx) (hk:aw I m l k tk) (af:(gT V.E t l tx tk).ob) :
  (gT V.E t l tx tk).t = .d (.bn [])∧∃ l' w',(gT V.E t l tx tk).bI = .bG l'∧(Builtin.delete_ #[t,t2] ty #[x,k]).run P w = .ok (.tuple #[]) w'∧Le I m l I m l'∧aI w0 I0 w' I m l':=by
 unfold gT at af ⊢
 split at af
 ·rename_i kk i id zU n h1 h3
  have:=RH h3 hk;subst this
  obtain⟨kt,e,u1,u2,u3⟩:=aaj hE h1
  split at af
  ·rename_i yu;subst yu
   simp only[if_true]
   split at af
   ·rename_i ks vs hl
    refine⟨rfl,?_⟩
    obtain⟨b,⟨es,di⟩,q1,q2,q3,s1,s2,r1,r2,ca⟩:=aq.obj id _ hl
    replace q3:w.heap[b]?=some (.map es di)∧MapKept.Stamped es di:=q3
    simp only at s1 s2 r1 r2
    have Me:x = .map (some b):=by
     cases hx with
     | map r _ p1 p2=>
      have:=p2 (by unfold isRow;rw[hl];rfl)
      rw[q1] at this;exact this.symm
    subst Me
    have qX:∀ e:Bool,(Instr.checkKey e 10000 kt (.int kk n)).run P w = .ok () w:=fun e=>MapKept.run_checkKey (d:= .int kk) (n:=9999) u2 (by simp[MapKept.IsKey]) e
    have cZ:own (m id)=some b:=by rw[q1];rfl
    rcases Qt (kk:=kk) (n:=n) es.toList ks 0 (by simpa using s1) (fun j e d q1 q2=>r1 j e d (by simpa using q1) q2) af with ⟨p1,p2,p6⟩ | ⟨j,e',p1,p2,p3,p4,p5⟩
    ·simp only[p1]
     have hf:=MapKept.run_findKey (w:=w) u2 p2
     have j9:=MapKept.run_setObj_map (P:=P) (.map es di) q3.1
     obtain⟨g1,g2⟩:=MapKept.heap_set (o':= .map es di) q3.1
     refine⟨_,{ w with heap:=w.heap.setIfInBounds b (.map es di) },rfl,?_,Le.setKind hl rfl rfl (by simp),?_⟩
     ·unfold Builtin.delete_
      simp[run_underlying u1,MapKept.run_getObj_map q3.1,qX,hf,j9]
     refine aq.Ag hl (by simp) cZ ca rfl rfl (Le.setKind hl rfl rfl (by simp)) rfl rfl rfl (Nat.le_refl _) (by simp) (fun k hk=>g2 k hk) ?_
     exact⟨b,(es,di),q1,q2,⟨g1,q3.2⟩,s1,s2,r1,r2,ca⟩
    simp only[p1,Nat.zero_add]
    rw[Nat.zero_add] at p5
    have hf:=MapKept.run_findKey (w:=w) u2 p5
    have vU:es[j]?=some e':=by simpa using p2
    have ra:j < es.size:=(Array.getElem?_eq_some_iff.1 vU).1
    have j9:=MapKept.run_setObj_map (P:=P) (.map (es.eraseIdxIfInBounds j) di) q3.1
    obtain⟨g1,g2⟩:=MapKept.heap_set (o':= .map (es.eraseIdxIfInBounds j) di) q3.1
    have her:(es.eraseIdxIfInBounds j).toList=es.toList.eraseIdx j:=by
     unfold Array.eraseIdxIfInBounds;rw[dif_pos ra];simp
    have aS:(es.eraseIdxIfInBounds j).size=es.size - 1:=by
     have h:=congrArg List.length her
     rw[Array.length_toList,List.length_eraseIdx,if_pos (by simpa using ra),Array.length_toList] at h;exact h
    have cB:∀ (i:Nat),(es.eraseIdxIfInBounds j)[i]?=es[if i < j then i else i+1]?:=fun i=>by
     have:(es.eraseIdxIfInBounds j)[i]?=(es.eraseIdxIfInBounds j).toList[i]?:=Array.getElem?_toList.symm
     rw[this,her,List.getElem?_eraseIdx];split<;>simp
    refine⟨_,{ w with heap:=w.heap.setIfInBounds b (.map (es.eraseIdxIfInBounds j) di) },rfl,?_,Le.setKind hl rfl rfl (by simp),?_⟩
    ·unfold Builtin.delete_
     simp[run_underlying u1,MapKept.run_getObj_map q3.1,qX,hf,j9]
    refine aq.Ag hl (by simp) cZ ca rfl rfl (Le.setKind hl rfl rfl (by simp)) rfl rfl rfl (Nat.le_refl _) (by simp) (fun k hk=>g2 k hk) ?_
    refine⟨b,(es.eraseIdxIfInBounds j,di),q1,q2,⟨g1,MapKept.stamped_erase q3.2 j⟩,by rw[aS,List.length_eraseIdx,if_pos (by omega)];omega,by rw[aS,List.length_eraseIdx,if_pos (by omega)];omega,fun i e d he bg=>?_,fun i e d' he bg=>?_,ca⟩
    ·rw[cB] at he;rw[List.getElem?_eraseIdx] at bg
     split at he
     ·rename_i h;rw[if_pos h] at bg;exact r1 _ e d he bg
     rename_i h;rw[if_neg h] at bg;exact r1 _ e d he bg
    rw[cB] at he;rw[List.getElem?_eraseIdx] at bg
    split at he
    ·rename_i h;rw[if_pos h] at bg;exact r2 _ e d' he bg
    rename_i h;rw[if_neg h] at bg;exact r2 _ e d' he bg
   exact af.elim
  exact af.elim
 exact af.elim
theorem atI (hE:cP P V.E) {t:TypeId} {x i:Value} {tx ti:T} (hx:aw I m L x tx) (hi:aw I m L i ti) (af:(iz V.E t tx ti).ob) :
  (iz V.E t tx ti).bI = .none∧∃ u,(Instr.index t x i).run P w = .ok u w∧aw I m L u (iz V.E t tx ti).t:=by
 unfold iz at af ⊢
 split at af
 ·rename_i s k n hs h3
  have:=RH h3 hi;subst this
  have hu:=adb hE hs
  have:=dp hx;cases this
  have hn:n.toNat < s.size:=by have:=af.2;omega
  have cB:s[n.toNat]?=some s[n.toNat]:=by rw[getElem?_pos s n.toNat hn]
  refine⟨rfl,.int .u8 (U2 s n.toNat),?_,.d _ _ (.int _ _)⟩
  unfold Instr.index U2
  simp[asIntOf,run_underlying hu,af.1,cB]
 exact af.elim
theorem aI.auF (aq:aI w0 I0 w I m L) (e:TypeId) (cs:Array Value) (size:Nat) (ds:List D) (n c:Nat) (hn:ds.length=n) (hs:∀ d∈ds,d.cells.length=size∧∀ x∈d.cells,x.one=true) (gE:n≤c) (hlen:n*size≤cs.size) (fc:c≤maxLen)
  (dg:∀ (j:Nat) x y,cs[j]?=some x→(flat ds)[j]?=some y→Rd I x y) :
  ∃ J,Le I m L J m L∧aI w0 I0 (w.alloc (.cells cs e)) J m L∧Rd J (.slice (some ⟨w.heap.size,0,none⟩) n c) (.slice size ds):=by
 have ca:=aq.sat.gp (Nat.le_refl w.heap.size)
 let J:=I.fG w.heap.size cs.toList
 have hle:I.le J:=⟨fun b o v hc=>by
  have hb:b≠w.heap.size:=by rintro rfl;rw[ca.1 o] at hc;cases hc
  simp[J,aC.fG,hb,hc],fun _ _ h=>h,fun _ h=>h⟩
 have oW:∀ b,b≠w.heap.size→J.cell b=I.cell b:=fun b hb=>by funext o;simp[J,aC.fG,hb]
 have bX:eD (w.alloc (.cells cs e)) J:=⟨fun b o v hc=>by
  by_cases hb:b=w.heap.size
  ·subst hb
   simp only[J,aC.fG,if_true] at hc
   rw[World.cell?_alloc_new]
   cases hx:cs[o]? with
   | none=>simp[hx,ca.1 o] at hc
   | some x=>simpa [hx] using hc
  ·rw[oW b hb] at hc
   rw[World.cell?_alloc_lt w _ _ (aq.sat.lt hc)];exact aq.sat.cell b o v hc,fun b es hc=>by
  have hh:=aq.sat.mp b es hc
  exact iT.to (Below.heap_alloc w _ b (aq.sat.wi hc)) hh,fun b hd=>(Below.heap_alloc w _ b (aq.sat.tu hd)).trans (aq.sat.df b hd),fun g d h=>(aq.sat.dS g d h).mono hle⟩
 obtain⟨r1,r2⟩:=aq.call (eL.alloc (eL.refl _ _) (Nat.le_refl _) _) (.of hle (fun b hb=>oW b (by omega)) (fun _ _=>rfl)) bX
 refine⟨J,r2,r1,.slice _ 0 n c size ds (fun k=>(cs[k]?).getD undef) hn gE fc hs (fun k hk=>?_) (fun k x hx=>?_)⟩
 ·have:cs[k]?=some (cs[k]'(by omega)):=Array.getElem?_eq_getElem (by omega)
  simp[J,aC.fG,this]
 have hk:k < n*size:=by rw[←hn,←ql ds (fun d hd=>(hs d hd).1)];exact(List.getElem?_eq_some_iff.1 hx).1
 have:cs[k]?=some (cs[k]'(by omega)):=Array.getElem?_eq_getElem (by omega)
 rw[this];exact(dg k _ x this hx).mono hle
theorem aI.drew (h:aI w0 I0 w I m L):aI w0 I0 w.drew I m L:=⟨h.below.drew,⟨h.sat.cell,h.sat.mp,h.sat.df,h.sat.dS⟩,h.ext,fun id o ho=>(h.obj id o ho).pR (Le.refl I m L) (fun _ _=>rfl) (fun _ _=>⟨rfl,rfl⟩),h.sep⟩
theorem afV:∀ (ds:List D),(∀ d∈ds,∃ n,d = .int .i32 n)→flat ds=ds
 | [],_=>rfl
 | d::ds,h=>by
  obtain⟨n,rfl⟩:=h d (by simp)
  have ih:=afV ds (fun x hx=>h x (by simp[hx]))
  unfold flat at ih ⊢
  rw[List.flatMap_cons,ih];rfl
theorem an3 (hE:cP P V.E) (aq:aI w0 I0 w I m L) {src t:TypeId} {x:Value} {tx:T} (hx:aw I m L x tx) (af:(iq V.E src t tx).ob) :
  (iq V.E src t tx).bI = .none∧∃ u w' J,(convert src t x).run P w = .ok u w'∧Le I m L J m L∧aI w0 I0 w' J m L∧aw J m L u (iq V.E src t tx).t:=by
 have tj:∀ {t:TypeId} {s b:Nat} {z:List D} {k:IntKind},V.E t=some ⟨s,b,z,.tj k⟩→P.underlying t=some (.int k):=by
  intro t s b z k hs
  obtain⟨x,z',_,_,_,_,_,_,h7,_⟩:=jj (hE t _ hs)
  simp only[sS] at h7
  split at h7
  ·rename_i k' he;simp at h7;subst h7;exact he
  cases h7
 unfold iq at af ⊢
 split at af
 ·rename_i k0 k k' n Yi hs
  have hu:=tj hs
  have oU:=tj Yi
  have:=dp hx;cases this
  refine⟨rfl,.int k (k.wrap n),w,I,?_,.refl ..,aq,.d _ _ (.int _ _)⟩
  unfold convert
  simp[run_underlying oU,run_underlying hu,Conv.intToInt]
 ·rename_i e s Yi hs
  split at af
  ·rename_i he
   have hu:=uo hE hs
   have Ma:=tj he
   have:=dp hx;cases this
   have aS:(Conv.runesFrom s s.size 0 #[]).size≤16777216:=by
    have:=size_runesFrom s s.size 0 #[];simp at this;have h2:s.size≤16777216:=af;omega
   have dL:=run_runes_of_string (P:=P) w src t e s (adb hE Yi) hu Ma (by omega)
   have hint:=ak4 s s.size 0 #[] (by simp)
   generalize hr:Conv.runesFrom s s.size 0 #[]=rs at *
   have hD:Og s=rs.toList.map ak3:=by unfold Og;rw[hr]
   have oU:∀ d∈Og s,∃ n,d = .int .i32 n:=by
    rw[hD];intro d hd
    obtain⟨v,hv,rfl⟩:=List.mem_map.1 hd
    obtain⟨n,rfl⟩:=hint v hv
    exact⟨n,rfl⟩
   obtain⟨J,q1,q2,q3⟩:=(aq.drew).auF e (rs++Array.replicate (grownCap w rs.size 0 e - rs.size) (.int .i32 0)) 1 (Og s) rs.size (grownCap w rs.size 0 e) (by simp[hD]) (fun d hd=>by obtain⟨n,rfl⟩:=oU d hd;simp[D.cells,D.one]) (grownCap_ge w rs.size 0 e) (by simp)
    (by
      have h0:grownCap w rs.size 0 e=rs.size+w.tape w.drawn (.appendCap rs.size 0 e) % (2 ^ 63 - rs.size):=rfl
      have:w.tape w.drawn (Question.appendCap rs.size 0 e) % (2 ^ 63 - rs.size) < 2 ^ 63 - rs.size:=Nat.mod_lt _ (by omega)
      rw[h0];unfold maxLen;omega)
    (
     fun j x y hx hy=>by
     rw[afV _ oU,hD] at hy
     rw[List.getElem?_map] at hy
     have hj:j < rs.size:=by
      cases hq:rs.toList[j]? with
      | none=>rw[hq] at hy;simp at hy
      | some z=>have:=(List.getElem?_eq_some_iff.1 hq).1;simpa using this
     rw[Array.getElem?_append_left hj] at hx
     have oF:rs.toList[j]?=some x:=by simpa using hx
     rw[oF] at hy;simp at hy;subst hy
     obtain⟨n,rfl⟩:=hint x (List.mem_of_getElem? oF)
     exact .int _ _)
   exact⟨rfl,_,_,J,dL,q1,q2,.d _ _ q3⟩
  exact af.elim
 exact af.elim
theorem aI.S9 {ob:AO} (aq:aI w0 I0 w I m l) {w':World} {v:Value} {b0:Nat} (cZ:own v=some b0) (pO:w.heap.size≤b0)
  (hg:w.grownBy w' none) (A3:w.drawn≤w'.drawn) (hoe:∀ e s els,ob ≠ .row e s els∧ob ≠ .cF e s els) (fB:rI w0.heap.size w' I (bG m l.length v) (l++[ob]) v ob) :
  Le I m l I (bG m l.length v) (l++[ob])∧aI w0 I0 w' I (bG m l.length v) (l++[ob]):=by
 have cB:∀ k,k < l.length→(l++[ob])[k]?=l[k]?:=fun k hk=>List.getElem?_append_left (by omega)
 have vW:(l++[ob])[l.length]?=some ob:=by simp
 have hle:Le I m l I (bG m l.length v) (l++[ob]):=by
  refine⟨.refl I,by simp,fun id aB hv=>⟨?_,eh m v (by omega)⟩,fun id aB hr=>⟨?_,eh m v (by omega)⟩,fun id e' s' els' aB hh=>⟨els',?_⟩⟩
  ·unfold isVar at hv ⊢;rw[cB id aB];exact hv
  ·unfold isRow at hr ⊢;rw[cB id aB] at hr;exact hr
  rw[cB id aB] at hh;exact hh
 have hold:∀ k,alive l k=true→∀ b,own (m k)=some b→b < w.heap.size:=by
  intro k hk b hb
  obtain⟨o,ho,hd⟩:=bZ.1 hk
  exact((aq.obj k o ho).lt hd hb).1
 refine⟨hle,⟨aq.below.trans ⟨hg.os,hg.tape,hg.output,hg.size,fun k hk=>hg.block k (by have:=aq.below.size;omega) (by simp),fun _=>A3⟩,⟨fun b o u hc=>?_,fun b es hc=>?_,fun b hd=>(hg.block b (aq.sat.tu hd) (by simp)).trans (aq.sat.df b hd),aq.sat.dS⟩,aq.ext,fun id o ho=>?_,fun i j b cj hi hj cY cT=>?_⟩⟩
 ·exact(World.cell?_of_block (w:=w) (a:=⟨b,o,none⟩) (hg.block b (aq.sat.lt hc) (by simp))).trans (aq.sat.cell b o u hc)
 ·have hh:=aq.sat.mp b es hc
  exact iT.to (hg.block b (aq.sat.wi hc) (by simp)) hh
 ·by_cases aB:id < l.length
  ·rw[cB id aB] at ho;rw[eh m v (by omega)]
   by_cases hd:o = .dead
   ·subst hd;trivial
   exact(aq.obj id o ho).pR hle (fun b hb=>hg.block b ((aq.obj id o ho).lt hd hb).1 (by simp)) (fun _ _=>⟨rfl,rfl⟩)
  have:id=l.length:=by
   have:=(List.getElem?_eq_some_iff.1 ho).1;simp at this;omega
  subst this
  rw[vW] at ho;injection ho with ho;subst ho
  rw[nT]
  exact fB
 have dD:∀ k,k≠l.length→alive (l++[ob]) k=true→alive l k=true:=by
  intro k hk ha
  obtain⟨o,ho,hd⟩:=bZ.1 ha
  have js:k < l.length:=by have:=(List.getElem?_eq_some_iff.1 ho).1;simp at this;omega
  rw[cB k js] at ho
  exact bZ.2 ⟨o,ho,hd⟩
 by_cases h1:i=l.length
 ·subst h1;rw[nT] at cY;rw[eh m v (Ne.symm cj)] at cT
  rw[cZ] at cY;injection cY with cY
  have:=hold j (dD j (Ne.symm cj) hj) b cT;omega
 by_cases h2:j=l.length
 ·subst h2;rw[nT] at cT;rw[eh m v cj] at cY
  rw[cZ] at cT;injection cT with cT
  have:=hold i (dD i cj hi) b cY;omega
 rw[eh m v h1] at cY;rw[eh m v h2] at cT
 exact aq.sep i j b cj (dD i h1 hi) (dD j h2 hj) cY cT
theorem aI.axU (aq:aI w0 I0 w I m l) {w':World} {v:Value} {b0:Nat} (cZ:own v=some b0) (pO:w.heap.size≤b0)
  (hg:w.grownBy w' none) (A3:w.drawn≤w'.drawn) (fB:rI w0.heap.size w' I m l v (.map [] [])) :
  Le I m l I (bG m l.length v) (l++[.map [] []])∧aI w0 I0 w' I (bG m l.length v) (l++[.map [] []]):=aq.S9 cZ pO hg A3 (by simp) fB
theorem Pu {es:ME} {i:Nat} {e:MapEntry} (h:es.1[i]?=some e):JX es i=e.born:=by simp[JX,h]
theorem azw {tx:T} (hE:cP P V.E) (aq:aI w0 I0 w I m L) {t:TypeId} {x:Operand} (ho:o.op = .range t x) (hx:aw I m L (ρ x) tx) (af:(BM V.E t l nid tx).ob):cy P w0 I0 o ρ w I m l L nid (BM V.E t l nid tx):=by
 unfold BM at af ⊢
 split at af
 ·rename_i kt e id hs
  split at af
  ·rename_i ks vs l' hd
   try simp only[hd]
   rintro rfl rfl
   have hu:P.underlying t=some (.map kt e):=by
    obtain⟨x,z',_,_,_,_,_,_,h7,_⟩:=jj (hE t _ hs)
    simp only[sS] at h7
    split at h7
    ·rename_i k' e' he;simp at h7;obtain⟨rfl,rfl⟩:=h7;exact he
    cases h7
   have hv:∃ b,ρ x = .map (some b):=by
    generalize s7:ρ x=vx at hx
    cases hx with
    | map r _ p1 p2=>
     simp only[dY,dA] at hd
     split at hd
     ·rename_i hl
      obtain⟨b,es,q1,_⟩:=aq.obj id _ hl
      have:=p2 (by unfold isRow;rw[hl];rfl)
      rw[q1] at this;injection this with this;exact⟨b,by rw[←this]⟩
     ·rename_i hl
      obtain⟨b,es,q1,_⟩:=aq.obj id _ hl
      have:=p2 (by unfold isRow;rw[hl];rfl)
      rw[q1] at this;injection this with this;exact⟨b,by rw[←this]⟩
     cases hd
   obtain⟨b,Bg⟩:=hv
   obtain⟨J,hle,uX,dg,hlen⟩:=Jw aq hx hd
   rw[Bg] at dg
   cases dg with
   | map _ es _ _ q1 q2 q3 q4 q5=>
    have hh:=uX.sat.mp b es q1
    have dL:=run_range_map (P:=P) w t kt e b es.1 es.2 hu hh.1
    have hex:(execOp ρ o).run P w = .ok (.value (.pointer (some ⟨w.heap.size,0,none⟩))) (w.alloc (.mapIter (some b) es.2 #[] es.2)):=by
     unfold execOp;simp[ho,Bg,dL]
    simp only[hex,cz]
    obtain⟨k1,k2⟩:=uX.S9 (ob:= .iter ks vs []) (w':=w.alloc (.mapIter (some b) es.2 #[] es.2)) (v:= .pointer (some ⟨w.heap.size,0,none⟩)) rfl (Nat.le_refl _) (World.grownBy_alloc w _ _) (Nat.le_refl _) (by simp)
     ⟨w.heap.size,some b,es,#[],rfl,aq.below.size,heap_alloc_new w _,⟨fun r hr=>by injection hr with hr;subst hr;exact q1,fun h=>by cases h⟩,q2,q3,q4,q5,⟨rfl,by simp⟩,uX.sat.gp (Nat.le_refl _)⟩
    refine⟨J,_,hle.trans k1,k2,?_⟩
    rw[←hlen]
    exact .ptr _ _ 0 (by unfold isVar;simp[AO.isVar]) (nT m _ _)
  exact af.elim
 ·rename_i kt e ks vs hs
  rintro rfl rfl
  have hu:P.underlying t=some (.map kt e):=by
   obtain⟨x,z',_,_,_,_,_,_,h7,_⟩:=jj (hE t _ hs)
   simp only[sS] at h7
   split at h7
   ·rename_i k' e' he;simp at h7;obtain⟨rfl,rfl⟩:=h7;exact he
   cases h7
  have hd:=dp hx
  have fin:∀ (mb:Option Nat) (es:ME),((∀ r,mb=some r→I.mp r=some es)∧(mb=none→es.1 = #[]))→es.1.size=ks.length→es.1.size=vs.length→(∀ (i:Nat) (e:MapEntry) (d:D),es.1[i]?=some e→ks[i]?=some d→Rd I e.key d)→(∀ (i:Nat) (e:MapEntry) (d:D),es.1[i]?=some e→vs[i]?=some d→Rd I e.val d) →
    (execOp ρ o).run P w = .ok (.value (.pointer (some ⟨w.heap.size,0,none⟩))) (w.alloc (.mapIter mb es.2 #[] es.2))→cz P ((execOp ρ o).run P w) fun v w'=>∃ J m',Le I m L J m' (L++[.iter ks vs []])∧aI w0 I0 w' J m' (L++[.iter ks vs []])∧aw J m' (L++[.iter ks vs []]) v (.ptr L.length 0):=by
   intro mb es q1 q2 q3 q4 q5 hex
   simp only[hex,cz]
   obtain⟨k1,k2⟩:=aq.S9 (ob:= .iter ks vs []) (w':=w.alloc (.mapIter mb es.2 #[] es.2)) (v:= .pointer (some ⟨w.heap.size,0,none⟩)) rfl (Nat.le_refl _) (World.grownBy_alloc w _ _) (Nat.le_refl _) (by simp)
    ⟨w.heap.size,mb,es,#[],rfl,aq.below.size,heap_alloc_new w _,q1,q2,q3,q4,q5,⟨rfl,by simp⟩,aq.sat.gp (Nat.le_refl _)⟩
   exact⟨I,_,k1,k2,.ptr _ _ 0 (by unfold isVar;simp[AO.isVar]) (nT m _ _)⟩
  generalize s7:ρ x=vx at hd
  cases hd with
  | Iy=>exact fin none (#[],0) ⟨fun r hr=>(by cases hr),fun _=>rfl⟩ rfl rfl (by simp) (by simp) (by unfold execOp;simp[ho,s7,run_range_nilMap (P:=P) w t kt e hu])
  | map b es _ _ q1 q2 q3 q4 q5=>
   have hh:=aq.sat.mp b es q1
   have dL:=run_range_map (P:=P) w t kt e b es.1 es.2 hu hh.1
   exact fin (some b) es ⟨fun r hr=>by injection hr with hr;subst hr;exact q1,fun h=>by cases h⟩ q2 q3 q4 q5 (by unfold execOp;simp[ho,s7,dL])
 exact af.elim
theorem aor {tx:T} (aq:aI w0 I0 w I m L) (hc:jm l L) {x:Operand} (ho:o.op = .entry x) (hx:aw I m L (ρ x) tx) (af:(AI l tx).ob):cy P w0 I0 o ρ w I m l L nid (AI l tx):=by
 unfold AI at af ⊢
 split at af
 ·rename_i id
  split at af
  ·rename_i ks vs done hl
   split at af
   ·rename_i i hi
    split at af
    ·rename_i k v hk hv
     try simp only[hl,hi,hk,hv]
     obtain⟨b,mb,es,seen,q1,q2,q3,q4,q5,q6,q7,q8,⟨q9,Ta⟩,q11⟩:=aq.obj id _ (hc.get hl)
     generalize s7:ρ x=vx at hx
     cases hx with
     | ptr _ b' _ p1 p2=>
      rw[q1] at p2;injection p2 with p2;injection p2 with p2;injection p2 with p2;subst p2
      have uT:i < es.1.size:=Ta i (List.mem_of_getLast? hi)
      obtain⟨r,rfl⟩:∃ r,mb=some r:=by
       cases mb with
       | none=>have:=q4.2 rfl;rw[this] at uT;simp at uT
       | some r=>exact⟨r,rfl⟩
      have hh:=aq.sat.mp r es (q4.1 r rfl)
      have LJ:es.1[i]?=some es.1[i]:=Array.getElem?_eq_getElem uT
      obtain⟨init,arP⟩:∃ init,done=init++[i]:=by
       obtain⟨ys,hys⟩:=List.getLast?_eq_some_iff.1 hi
       exact⟨ys,hys⟩
      have Rr:seen=(init.map (JX es)).toArray.push es.1[i].born:=by
       apply Array.toList_inj.1
       rw[q9,arP];simp[Pu LJ]
      rw[Rr] at q3
      have dL:=run_entry_at (P:=P) w b r es.2 _ es.1 es.2 es.1[i] q3 hh.1 (by simp) hh.2.2.1
      refine cy.val aq rfl (u:= .tuple #[es.1[i].key,es.1[i].val]) (by unfold execOp;simp[ho,s7,dL]) (.d _ _ (.bn _ _ rfl fun j u d hu hd=>?_))
      rcases j with _ | _ | j
      ·simp at hu hd;subst hu;subst hd;exact q7 i _ _ LJ hk
      ·simp at hu hd;subst hu;subst hd;exact q8 i _ _ LJ hv
      simp at hu
    exact af.elim
   exact af.elim
  exact af.elim
 exact af.elim
theorem avc (aq:aI w0 I0 w I m l) {t:TypeId} (ho:o.op = .makeMap t none):cy P w0 I0 o ρ w I m l L nid ⟨.map nid,.bG (l++[.map [] []]),True⟩:=by
 rintro rfl rfl
 have hx:(execOp ρ o).run P w = .ok (.value (.map (some w.heap.size))) (w.alloc (.map #[] 0)):=by
  unfold execOp;simp[ho,Instr.makeMap]
 simp only[hx,cz]
 obtain⟨q1,q2⟩:=aq.axU (w':=w.alloc (.map #[] 0)) (v:= .map (some w.heap.size)) rfl (Nat.le_refl _) (World.grownBy_alloc w _ _) (Nat.le_refl _) ⟨_,(#[],0),rfl,aq.below.size,⟨heap_alloc_new w _,MapKept.stamped_empty 0⟩,rfl,rfl,by simp,by simp,aq.sat.gp (Nat.le_refl _)⟩
 exact⟨I,_,q1,q2,.map _ _ (by simp) (fun _=>nT m _ _)⟩
end
end Go.an
namespace Go.an
open Go Go.RowKit
variable [ck]
section
variable {P:Program} {V:Env} {w0 w w':World} {I0 I:aC} {m:Nat→Value} {l L:List AO} {nid:Nat} {o:Oper} {ρ:Operand→Value} {ρT:Operand→T}
theorem aAp (hE:cP P V.E) {t:TypeId} {sz bt:Nat} {z:List D} {k:IntKind} (h:V.E t=some ⟨sz,bt,z,.tj k⟩):P.underlying t=some (.int k):=by
 obtain⟨x,z',_,_,_,_,_,_,h7,_⟩:=jj (hE t _ h)
 simp only[sS] at h7
 split at h7
 ·rename_i k' he;simp at h7;subst h7;exact he
 cases h7
theorem anq (hE:cP P V.E) {t:TypeId} {sz bt n:Nat} {z:List D} {ds:List T} {e:TypeId} {parts:Array (Nat×Operand)} (hs:V.E t=some ⟨sz,bt,z,.array n e⟩) (hr:∀ p∈parts.toList,aw I m L (ρ p.2) (ρT p.2))
  (hf:gC (fun i=>some (i*bw V.E e,bw V.E e)) (z.map gb) (parts.toList.map fun p=>(p.1,ρT p.2))=some ds) (bL:(V.E e).isSome=true) :
  ∃ u,(Instr.build t (parts.map fun(i,x)=>(i,ρ x))).run P w = .ok u w∧aw I m L u (gH true ds):=by
 have hu:=UP hE hs
 obtain⟨x,zv,h1,h2,h3,h4,h5,h6,h7,h8⟩:=jj (hE t _ hs)
 have hc:Au I m L zv.cells.toList (z.map gb):=by
  obtain⟨k1,k2,k3⟩:=As I _ _ h5
  have k1:zv.cells.toList.length=z.length:=k1
  refine⟨by simpa using k1,fun v hv=>?_,fun i v t hv ht=>?_⟩
  ·obtain⟨j,hj,rfl⟩:=List.mem_iff_getElem.1 hv
   have gO:j < z.length:=by omega
   exact(k3 j _ _ (List.getElem?_eq_getElem hj) (List.getElem?_eq_getElem gO)).one (k2 _ (List.getElem_mem gO))
  rw[List.getElem?_map] at ht
  cases hz:z[i]? with
  | none=>simp[hz] at ht
  | some d=>simp[hz] at ht;subst ht;exact aeM (O4 h5 hv hz)
 obtain⟨wV,LK,iY⟩:=VV (ρ:=ρ) (ρT:=ρT) (m:=m) (L:=L) (fun i=>some (i*bw V.E e,bw V.E e)) parts.toList zv.cells _ ds hc hr hf
 obtain⟨ie,oB⟩:=Option.isSome_iff_exists.1 bL
 obtain⟨x',_,k1,k2,_⟩:=jj (hE _ _ oB)
 have aS:x'.size=bw V.E e:=by simp[bw,oB,k2]
 have hb:P.built t (parts.map fun(i,x)=>(i,ρ x)).toList=some wV:=by
  unfold Program.built
  have e1:(parts.map fun(i,x)=>(i,ρ x)).toList=parts.toList.map fun p=>(p.1,ρ p.2):=by simp
  simp only[h1,hu,h4,k1,aS]
  rw[←LK,e1]
 refine⟨_,run_build w t _ _ hb,?_⟩
 have:=aaq (I:=I) (m:=m) (L:=L) (i:=⟨wV.size,0,[],.struct []⟩) (vs:=wV.toList) (ts:=ds) iY.1 (by simp) (by simp[TD.agg]) (fun j v t hv ht=>⟨iY.2.2 j v t hv ht,iY.2.1 v (List.mem_of_getElem? hv)⟩)
 simpa [TD.agg] using this
theorem afW:∀ {cs:List D},cs.all D.one=true→flat cs=cs
 | [],_=>rfl
 | d::cs,h=>by
  simp only[List.all_cons,Bool.and_eq_true] at h
  have:d.cells=[d]:=by cases d<;>simp[D.one] at h<;>rfl
  simp only[flat,List.flatMap_cons,this]
  have ih:=afW h.2
  unfold flat at ih
  rw[ih];rfl
theorem azY (hE:cP P V.E) {t e:TypeId} {sz bt n:Nat} {z:List D} (hs:V.E t=some ⟨sz,bt,z,.array n e⟩) {v:Value} {cs:List D} (hx:aw I m L v (.d (.box (.agg cs)))) (af:(gX V.E n e cs).ob) :
  (gX V.E n e cs).bI = .none∧∃ u,(Instr.sliceAt t v none none none).run P w = .ok u w∧aw I m L u (gX V.E n e cs).t:=by
 unfold gX at af ⊢
 split at af
 ·rename_i h
  rw[if_pos h]
  obtain⟨h1,h2,h3,h4,h5⟩:=h
  refine⟨rfl,?_⟩
  have hu:=UP hE hs
  have dD:P.arrayLen t=n:=by simp[Program.arrayLen,hu]
  have qY:P.elem t=e:=by simp[Program.elem,hu]
  have dm:P.underlying t=some (.array (P.arrayLen t) (P.elem t)):=by rw[dD,qY];exact hu
  obtain⟨ie,oB⟩:=Option.isSome_iff_exists.1 h2
  have aS:(sizeOf (P.elem t)).run P w = .ok 1 w:=by
   rw[qY,vq hE oB];congr 1;simpa [bw,oB] using h1
  have hd:=dp hx
  cases hd with
  | box b _ val q1 q2 q3=>
   have dL:=run_sliceAt_array_all (P:=P) (w:=w) (t:=t) (a:=⟨b,0,none⟩) dm
   rw[aS,dD] at dL
   refine⟨_,dL,?_⟩
   refine .d _ _ ?_
   have mn:∀ d∈cs,d.one=true:=fun d hd=>List.all_eq_true.1 h5 d hd
   have oz:∀ d:D,d.one=true→d.cells=[d]:=by intro d hd;cases d<;>simp[D.one] at hd<;>rfl
   have eH:∀ (o:Nat),slicedAt ⟨b,0,none⟩ 0 n n 1 = .slice (some ⟨b,0,none⟩) n n:=by
    intro o
    unfold slicedAt
    split
    ·simp
    simp[Addr.add]
   rw[eH 0]
   refine .slice b 0 n n 1 cs val h3 (Nat.le_refl _) (by unfold maxLen;omega) (fun d hd=>⟨by rw[oz d (mn d hd)];rfl,fun x hx=>by rw[oz d (mn d hd)] at hx;simp at hx;subst hx;exact mn _ hd⟩) (fun k hk=>?_) (fun k x hk=>?_)
   ·have:=q2 k (by simp[D.cells];omega)
    simpa using this
   rw[afW h5] at hk
   exact q3 k x (by simpa [D.cells] using hk)
 exact af.elim
theorem azA {v:Value} {d:D} {kk:IntKind} (h:Rd I v d) (hd:Ia kk d=true):∃ n,v = .int kk n∧d = .int kk n:=by
 cases d<;>simp[Ia] at hd
 subst hd
 cases h;exact⟨_,rfl,rfl⟩
theorem ab8 {v:Value} {d:D} {n:Nat} {kk:IntKind} (h:Rd I v d) (hd:Br n kk d=true):∃ ns:List Int,ns.length=n∧v = .agg (ns.map fun n=>Value.int kk n).toArray∧d = .agg (ns.map fun n=>D.int kk n):=by
 cases d<;>simp only[Br,Bool.and_eq_true,decide_eq_true_eq] at hd<;>try cases hd
 rename_i cs hlen bL
 cases h with
 | agg vs _ q1 q2 q3=>
  have key:∀ (cs:List D) (vs:List Value),vs.length=cs.length→cs.all (Ia kk)=true→(∀ (i:Nat) v d,vs[i]?=some v→cs[i]?=some d→Rd I v d)→∃ ns:List Int,ns.length=cs.length∧vs=ns.map (fun n=>Value.int kk n)∧cs=ns.map (fun n=>D.int kk n):=by
   intro cs
   induction cs with
   | nil=>intro vs h1 _ _;exact⟨[],rfl,by simpa using h1,rfl⟩
   | cons c cs ih=>
    intro vs h1 h2 h3
    cases vs with
    | nil=>simp at h1
    | cons v vs=>
     simp only[List.all_cons,Bool.and_eq_true] at h2
     obtain⟨n,rfl,rfl⟩:=azA (h3 0 v c rfl rfl) h2.1
     obtain⟨ns,k1,k2,k3⟩:=ih vs (by simpa using h1) h2.2 (fun i v d a b=>h3 (i+1) v d (by simpa using a) (by simpa using b))
     exact⟨n::ns,by simp[k1],by simp[k2],by simp[k3]⟩
  obtain⟨ns,k1,k2,k3⟩:=key cs vs.toList (by simpa using q1) bL (fun i v d a b=>q3 i v d (by simpa using a) b)
  refine⟨ns,by omega,?_,by rw[k3]⟩
  congr 1
  apply Array.toList_inj.1
  simpa using k2
theorem Ps {kk:IntKind}:∀ (a b:List Int),eO (a.map fun n=>D.int kk n) (b.map fun n=>D.int kk n)=decide (a=b)
 | [],[]=>by simp[eO]
 | [],_::_=>by simp[eO]
 | _::_,[]=>by simp[eO]
 | x::a,y::b=>by
  simp only[List.map_cons,eO,pd,Ps a b]
  rw[Bool.eq_iff_iff];simp
theorem abh {e:TypeId} {kk:IntKind} (he:P.underlying e=some (.int kk)):P.plainKey e=true:=by simp[Program.plainKey,he]
theorem akY (d:Nat) {e:TypeId} {kk:IntKind} (he:P.underlying e=some (.int kk)) (hc:P.cellsOf e=1) (a b:List Int):∀ (is:List Nat),(∀ i∈is,i < a.length∧i < b.length) →
  (Op.eqItems (d+1) e (P.cellsOf e) (a.map fun n=>Value.int kk n).toArray (b.map fun n=>Value.int kk n).toArray is).run P w = .ok (is.all fun i=>decide (a[i]?=b[i]?)) w
 | [],_=>by simp[Op.eqItems]
 | i::is,h=>by
  have hi:=h i (by simp)
  have ea:(a.map fun n=>Value.int kk n).toArray[i*P.cellsOf e]?=some (.int kk a[i]):=by simp[hc,hi.1]
  have eb:(b.map fun n=>Value.int kk n).toArray[i*P.cellsOf e]?=some (.int kk b[i]):=by simp[hc,hi.2]
  simp only[Op.eqItems,Sem.run_bind,run_part_plain w (abh he) ea,run_part_plain w (abh he) eb,Result.andThen_ok,run_equalIn_int w d e kk _ _ _ he]
  by_cases cA:a[i]=b[i]
  ·have:=akY d he hc a b is (fun j hj=>h j (by simp[hj]))
   simp only[cA,BEq.rfl,Bool.not_true,Bool.false_eq_true,if_false]
   rw[this]
   simp[cA,hi.1,hi.2]
  simp[cA,hi.1,hi.2,beq_eq_false_iff_ne.2 cA]
theorem am8 {a b:List Int} (h:a.length=b.length):((List.range a.length).all fun i=>decide (a[i]?=b[i]?))=decide (a=b):=by
 rw[Bool.eq_iff_iff]
 simp only[List.all_eq_true,List.mem_range,decide_eq_true_eq]
 constructor
 ·intro hh
  apply List.ext_getElem? 
  intro i
  by_cases hi:i < a.length
  ·exact hh i hi
  rw[List.getElem?_eq_none (by omega),List.getElem?_eq_none (by omega)]
 rintro rfl i _;rfl
theorem azI {kt e:TypeId} {n:Nat} {kk:IntKind} (hu:P.underlying kt=some (.array n e)) (he:P.underlying e=some (.int kk)) {i:TypeInfo} (hi:P.info? e=some i) (hc:P.cellsOf e=1) (a b:List Int) (ha:a.length=n) (hb:b.length=n) :
  (Op.equal kt (.agg (a.map fun n=>Value.int kk n).toArray) (.agg (b.map fun n=>Value.int kk n).toArray)).run P w = .ok (decide (a=b)) w:=by
 unfold Op.equal
 rw[show Op.maxDepth=9998+1+1 by rfl,run_equalIn_array w (9998+1) _ _ hu hi,akY 9998 he hc a b _ (fun i hi=>by simp at hi;omega),←ha,am8 (by omega)]
theorem VW {kt e:TypeId} {n:Nat} {kk:IntKind} (hu:P.underlying kt=some (.array n e)) (he:P.underlying e=some (.int kk)) {ti:TypeInfo} (hi:P.info? e=some ti) (hc:P.cellsOf e=1) (ns:List Int) (pj:ns.length=n):∀ (es:List MapEntry) (ks:List D) (i:Nat),es.length=ks.length →
  (∀ (j:Nat) (x:MapEntry) (d:D),es[j]?=some x→ks[j]?=some d→Rd I x.key d)→ks.all (Br n kk)=true →
  (yN (.agg (ns.map fun n=>D.int kk n)) ks i=none∧(Instr.findAsking kt (.agg (ns.map fun n=>Value.int kk n).toArray) es i).run P w = .ok none w∧∀ x∈es,x.key ≠ .agg (ns.map fun n=>Value.int kk n).toArray) ∨
  ∃ j x,yN (.agg (ns.map fun n=>D.int kk n)) ks i=some (i+j)∧es[j]?=some x∧x.key = .agg (ns.map fun n=>Value.int kk n).toArray∧ks[j]?=some (.agg (ns.map fun n=>D.int kk n))∧(Instr.findAsking kt (.agg (ns.map fun n=>Value.int kk n).toArray) es i).run P w = .ok (some (i+j,x.val)) w
 | [],[],i,_,_,_=> .inl ⟨rfl,by simp[Instr.findAsking],by simp⟩
 | x::es,d::ks,i,hl,hr,hk=>by
  simp only[List.all_cons,Bool.and_eq_true] at hk
  obtain⟨as,ha,pP,rfl⟩:=ab8 (hr 0 x d rfl rfl) hk.1
  have heq:=azI (w:=w) hu he hi hc ns as pj ha
  by_cases ub:ns=as
  ·subst ub
   refine .inr ⟨0,x,by simp[yN,Im,Ps],rfl,pP,rfl,?_⟩
   simp only[Instr.findAsking,pP,Sem.run_bind,heq,Result.andThen_ok]
   simp
  rcases VW hu he hi hc ns pj es ks (i+1) (by simpa using hl) (fun j e d h1 h2=>hr (j+1) e d (by simpa using h1) (by simpa using h2)) hk.2 with ⟨h1,h2,h6⟩ | ⟨j,e',h1,h2,h3,h4,h5⟩
  ·refine .inl ⟨by simp[yN,Im,Ps,ub,h1],?_,fun y hy=>?_⟩
   ·simp only[Instr.findAsking,pP,Sem.run_bind,heq,Result.andThen_ok]
    simp[ub,h2]
   rcases List.mem_cons.1 hy with rfl | hy
   ·rw[pP];intro he
    injection he with he
    have:=congrArg Array.toList he
    simp only[List.map_inj_left,List.toList_toArray] at this
    exact ub ((List.map_inj_right (fun a b h=>by injection h)).1 this.symm)
   exact h6 y hy
  refine .inr ⟨j+1,e',by simp only[yN,Im,Ps,ub];simp[h1];omega,by simpa using h2,h3,by simpa using h4,?_⟩
  simp only[Instr.findAsking,pP,Sem.run_bind,heq,Result.andThen_ok]
  simp[ub,h5];omega
theorem akX {kt e:TypeId} {n:Nat} {kk:IntKind} (hu:P.underlying kt=some (.array n e)) (he:P.underlying e=some (.int kk)) {ti:TypeInfo} (hi:P.info? e=some ti) (hc:P.cellsOf e=1) (ns:List Int) (pj:ns.length=n) (em:Bool) :
  (Instr.checkKey em 10000 kt (.agg (ns.map fun n=>Value.int kk n).toArray)).run P w = .ok () w:=by
 rw[show(10000:Nat)=9998+1+1 by rfl]
 unfold Instr.checkKey
 simp only[Sem.run_bind,run_underlying hu,Result.andThen_ok]
 simp only[Std.Legacy.Range.forIn_eq_forIn_range',Std.Legacy.Range.size,Nat.sub_zero,Nat.add_one_sub_one,Nat.div_one]
 have bL:∀ i∈List.range' 0 n,i < ns.length:=fun i hi=>by simp at hi;omega
 generalize List.range' 0 n=is at bL
 induction is with
 | nil=>simp
 | cons j is ih=>
  have hj:=bL j (by simp)
  have ea:(ns.map fun n=>Value.int kk n).toArray[j*P.cellsOf e]?=some (.int kk ns[j]):=by simp[hc,hj]
  have qX:(Instr.checkKey em (9998+1) e (.int kk ns[j])).run P w = .ok () w:=MapKept.run_checkKey (d:= .int kk) (n:=9998) he (by simp[MapKept.IsKey]) em
  simp only[List.forIn_cons,Sem.run_bind,run_sizeOf w hi,Result.andThen_ok,run_part_plain w (abh he) ea,qX,Sem.run_pure]
  exact ih fun i hi=>bL i (by simp[hi])
theorem aiX (hE:cP P V.E) {t:TypeId} {n:Nat} {kk:IntKind} {i:TI} (h:ib V.E t=some (n,kk,i)):∃ kt e ie ti,P.underlying t=some (.map kt e)∧P.underlying kt=some (.array n ie)∧P.underlying ie=some (.int kk)∧P.info? ie=some ti∧P.cellsOf ie=1∧V.E e=some i:=by
 unfold ib at h
 split at h
 ·rename_i kt e ht
  split at h
  ·rename_i n' ie i' h1 h2
   split at h
   ·rename_i zU h3
    injection h with h;injection h with e1 e2;injection e2 with e2 e3;subst e1;subst e2;subst e3
    obtain⟨x,z',_,_,_,_,_,_,h7,_⟩:=jj (hE t _ ht)
    obtain⟨ti,z,k1,k2,k3,k4,k5,k6,k7,k8⟩:=jj (hE ie _ h3)
    have hint:=aAp hE h3
    refine⟨kt,e,ie,ti,?_,UP hE h1,hint,k1,?_,h2⟩
    ·simp only[sS] at h7
     split at h7
     ·rename_i k' e' he;simp at h7;obtain⟨rfl,rfl⟩:=h7;exact he
     cases h7
    have:P.cellsOf ie=ti.size:=by simp[Program.cellsOf,k1]
    rw[this,k2]
    have hz:=k5
    have ha:=k6
    simp only[TD.agg] at ha
    have hlen:z.cells.toList.length=1:=by cases z<;>simp[yI,Value.cells] at ha ⊢
    obtain⟨q1,_,_⟩:=As ⟨fun _ _=>none,fun _=>none,fun _=>False⟩ _ _ hz
    have e1:z.cells.toList.length=_:=q1
    rw[hlen] at e1
    dsimp only at k8 e1 ⊢
    exact k8.symm.trans e1.symm
   cases h
  cases h
 cases h
theorem au1 (hE:cP P V.E) (aq:aI w0 I0 w I m L) (hc:jm l L) {t:TypeId} {x k:Value} {tx tk:T} {ok:Bool} (hx:aw I m L x tx) (hk:aw I m L k tk) (af:(iB V.E t l tx tk ok).ob) :
  (iB V.E t l tx tk ok).bI = .none∧∃ u,(Instr.lookup t x k ok).run P w = .ok u w∧aw I m L u (iB V.E t l tx tk ok).t:=by
 unfold iB at af ⊢
 split at af
 ·rename_i n kk i ks vs kd h1 h2
  obtain⟨kt,e,ie,ti,u1,u2,u3,u4,u5,u6⟩:=aiX hE h1
  obtain⟨es,s1,s2,r1,r2,r3⟩:=aai aq hc hx h2
  obtain⟨z,z1,z2,z3,z4⟩:=Ud hE u6 w
  split at af
  ·rename_i yu
   simp only[if_pos yu]
   obtain⟨ns,pj,rfl,rfl⟩:=ab8 (dp hk) yu
   have qX:∀ e:Bool,(Instr.checkKey e 10000 kt (.agg (ns.map fun n=>Value.int kk n).toArray)).run P w = .ok () w:=akX u2 u3 u4 u5 ns pj
   have Yx:(match P.underlying kt with | some (.array _ _) | some (.struct _)=>true | _=>false)=true:=by simp[u2]
   have dL:∀ r,(Instr.findAsking kt (.agg (ns.map fun n=>Value.int kk n).toArray) es.toList 0).run P w = .ok r w→(Instr.lookup t x (.agg (ns.map fun n=>Value.int kk n).toArray) ok).run P w = .ok (if ok then .tuple #[match r with | some (_,v)=>v | none=>z,.bool r.isSome] else match r with | some (_,v)=>v | none=>z) w:=by
    intro r hr
    have hf:=run_findKey_eq w Yx (.agg (ns.map fun n=>Value.int kk n).toArray) es.toList
    rw[hr] at hf
    unfold Instr.lookup
    rcases r3 with ⟨rfl,rfl⟩ | ⟨b,di,rfl,hh⟩
    ·simp only[Sem.run_bind,run_underlying u1,Result.andThen_ok,Sem.run_pure,qX,hf]
     cases r<;>simp[z1]<;>split<;>simp
    simp only[Sem.run_bind,run_underlying u1,Result.andThen_ok,Sem.run_pure,MapKept.run_getObj_map hh,qX,hf]
    cases r<;>simp[z1]<;>split<;>simp
   rcases VW (w:=w) u2 u3 u4 u5 ns pj es.toList ks 0 (by simpa using s1) (fun j e d q1 q2=>r1 j e d (by simpa using q1) q2) (by split at af<;>exact af) with ⟨q1,q2,_⟩ | ⟨j,e',q1,q2,q3,q4,q5⟩
   ·simp only[q1]
    refine⟨by trivial,_,dL _ q2,?_⟩
    have hz:=am2 (I:=I) z2 z3
    cases ok
    ·exact .d _ _ hz
    exact .d _ _ (.bn _ _ rfl fun i v d hv hd=>by
     rcases i with _ | _ | i
     ·simp at hv hd;subst hv;subst hd;exact hz
     ·simp at hv hd;subst hv;subst hd;exact .bool _
     simp at hv)
   simp only[q1,Nat.zero_add]
   refine⟨by trivial,_,dL _ q5,?_⟩
   have hj:j < vs.length:=by rw[←s2];have:=(List.getElem?_eq_some_iff.1 q2).1;simpa using this
   have hv:=r2 j e' _ (by simpa using q2) (List.getElem?_eq_getElem hj)
   rw[afB (List.getElem?_eq_getElem hj)]
   cases ok
   ·exact .d _ _ hv
   exact .d _ _ (.bn _ _ rfl fun i v d dW hd=>by
    rcases i with _ | _ | i
    ·simp at dW hd;subst dW;subst hd;exact hv
    ·simp at dW hd;subst dW;subst hd;exact .bool _
    simp at dW)
  exact af.elim
 exact af.elim
theorem azL (kk:IntKind) (d:Nat):∀ ns:List Int,Instr.sameBits (d+2) (.agg (ns.map fun n=>Value.int kk n).toArray) (.agg (ns.map fun n=>Value.int kk n).toArray)=true:=by
 intro ns
 simp only[Instr.sameBits,BEq.rfl,Bool.true_and,List.all_eq_true]
 rintro⟨a,b⟩ cA
 have key:∀ l:List Int,(a,b)∈(l.map fun n=>Value.int kk n).zip (l.map fun n=>Value.int kk n)→∃ n,a = .int kk n∧b = .int kk n:=by
  intro l
  induction l with
  | nil=>intro h;simp at h
  | cons x l ih=>
   intro h
   simp only[List.map_cons,List.zip_cons_cons,List.mem_cons,Prod.mk.injEq] at h
   rcases h with ⟨rfl,rfl⟩ | h
   ·exact⟨x,rfl,rfl⟩
   exact ih h
 obtain⟨n,rfl,rfl⟩:=key ns (by simpa using cA)
 simp[Instr.sameBits]
theorem az7 (kk:IntKind) (ns:List Int) (w:World):(Instr.keyThatStays (.agg (ns.map fun n=>Value.int kk n).toArray) (.agg (ns.map fun n=>Value.int kk n).toArray)).run P w = .ok (.agg (ns.map fun n=>Value.int kk n).toArray) w:=by
 unfold Instr.keyThatStays
 rw[show(10000:Nat)=9998+2 by rfl,azL kk 9998 ns];rfl
theorem axW (hE:cP P V.E) (aq:aI w0 I0 w I m l) {t:TypeId} {x k v:Value} {tx tk tv:T} (hx:aw I m l x tx) (hk:aw I m l k tk) (hv:aw I m l v tv) (af:(gm V.E t l tx tk tv).ob) :
  ∃ l' w',(gm V.E t l tx tk tv).bI = .bG l'∧(Instr.mapUpdate t x k v).run P w = .ok () w'∧Le I m l I m l'∧aI w0 I0 w' I m l':=by
 unfold gm at af ⊢
 split at af
 ·rename_i n kk i id kd d h1 h4
  have hd:=T9 hv h4
  obtain⟨kt,e,ie,ti,u1,u2,u3,u4,u5,u6⟩:=aiX hE h1
  split at af
  ·rename_i yu
   simp only[if_pos yu]
   have LV:=dp hk
   obtain⟨ns,pj,rfl,rfl⟩:=ab8 LV yu
   obtain⟨key,pP⟩:∃ key,key=Value.agg (ns.map fun n=>Value.int kk n).toArray:=⟨_,rfl⟩
   split at af
   ·rename_i ks vs hl
    obtain⟨b,⟨es,di⟩,q1,q2,q3,s1,s2,r1,r2,ca⟩:=aq.obj id _ hl
    replace q3:w.heap[b]?=some (.map es di)∧MapKept.Stamped es di:=q3
    simp only at s1 s2 r1 r2
    have Me:x = .map (some b):=by
     cases hx with
     | map r _ p1 p2=>
      have:=p2 (by unfold isRow;rw[hl];rfl)
      rw[q1] at this;exact this.symm
    subst Me
    have qX:∀ e:Bool,(Instr.checkKey e 10000 kt (.agg (ns.map fun n=>Value.int kk n).toArray)).run P w = .ok () w:=akX u2 u3 u4 u5 ns pj
    have Yx:(match P.underlying kt with | some (.array _ _) | some (.struct _)=>true | _=>false)=true:=by simp[u2]
    have HR:=run_findKey_eq w Yx (.agg (ns.map fun n=>Value.int kk n).toArray) es.toList
    have gQ:=az7 (P:=P) kk ns w
    have cZ:own (m id)=some b:=by rw[q1];rfl
    rcases VW (w:=w) u2 u3 u4 u5 ns pj es.toList ks 0 (by simpa using s1) (fun j e d q1 q2=>r1 j e d (by simpa using q1) q2) af with ⟨p1,p2,p6⟩ | ⟨j,e',p1,p2,p3,p4,p5⟩
    ·simp only[p1]
     rw[p2] at HR
     rw[←pP] at LV qX HR p6 ⊢
     have j9:=MapKept.run_setObj_map (P:=P) (.map (es.push { key:=key,val:=v,born:=di }) (di+1)) q3.1
     obtain⟨g1,g2⟩:=MapKept.heap_set (o':= .map (es.push { key:=key,val:=v,born:=di }) (di+1)) q3.1
     refine⟨_,{ w with heap:=w.heap.setIfInBounds b (.map (es.push { key:=key,val:=v,born:=di }) (di+1)) },rfl,?_,?_,?_⟩
     ·unfold Instr.mapUpdate
      simp only[Sem.run_bind,run_underlying u1,Result.andThen_ok,MapKept.run_getObj_map q3.1,qX,HR,j9]
     ·exact Le.setKind hl rfl rfl (by simp)
     refine aq.Ag hl (by simp) cZ ca rfl rfl (Le.setKind hl rfl rfl (by simp)) rfl rfl rfl (Nat.le_refl _) (by simp) (fun k hk=>g2 k hk) ?_
     refine⟨b,(es.push { key:=key,val:=v,born:=di },di+1),q1,q2,⟨g1,MapKept.stamped_push q3.2 (by simpa using p6)⟩,by simp[s1],by simp[s2],fun i e d he bg=>?_,fun i e d' he bg=>?_,ca⟩
     ·rw[Array.getElem?_push] at he
      split at he
      ·injection he with he;subst he
       rename_i hi;subst hi
       rw[s1,List.getElem?_append_right (Nat.le_refl _)] at bg;simp at bg;subst bg;simpa using LV
      have hi:i < ks.length:=by have:=(Array.getElem?_eq_some_iff.1 he).1;omega
      rw[List.getElem?_append_left hi] at bg;exact r1 i e d he bg
     rw[Array.getElem?_push] at he
     split at he
     ·injection he with he;subst he
      rename_i hi;subst hi
      rw[s2,List.getElem?_append_right (Nat.le_refl _)] at bg;simp at bg;subst bg;exact hd
     have hi:i < vs.length:=by have:=(Array.getElem?_eq_some_iff.1 he).1;omega
     rw[List.getElem?_append_left hi] at bg;exact r2 i e d' he bg
    simp only[p1,Nat.zero_add]
    rw[Nat.zero_add] at p5
    rw[p5] at HR
    rw[←pP] at LV qX HR p3 gQ ⊢
    have vU:es[j]?=some e':=by simpa using p2
    have j9:=MapKept.run_setObj_map (P:=P) (.map (es.modify j fun e=>{ e with key:=key,val:=v }) di) q3.1
    obtain⟨g1,g2⟩:=MapKept.heap_set (o':= .map (es.modify j fun e=>{ e with key:=key,val:=v }) di) q3.1
    refine⟨_,{ w with heap:=w.heap.setIfInBounds b (.map (es.modify j fun e=>{ e with key:=key,val:=v }) di) },rfl,?_,Le.setKind hl rfl rfl (by simp),?_⟩
    ·unfold Instr.mapUpdate
     simp only[Sem.run_bind,run_underlying u1,Result.andThen_ok,MapKept.run_getObj_map q3.1,qX,HR,vU,Option.map_some,Option.getD_some,p3,gQ,j9]
    refine aq.Ag hl (by simp) cZ ca rfl rfl (Le.setKind hl rfl rfl (by simp)) rfl rfl rfl (Nat.le_refl _) (by simp) (fun k hk=>g2 k hk) ?_
    refine⟨b,(es.modify j fun e=>{ e with key:=key,val:=v },di),q1,q2,⟨g1,MapKept.stamped_modify q3.2 j _ (fun _ _=>rfl) (fun x hx hj=>by rw[vU] at hj;injection hj with hj;subst hj;exact p3.symm)⟩,by simp[s1],by simp[s2],fun i e d he bg=>?_,fun i e d' he bg=>?_,ca⟩
    ·rw[Array.getElem?_modify] at he
     split at he
     ·rename_i hi;subst hi
      rw[vU] at he;simp at he;subst he
      rw[p4] at bg;injection bg with bg;subst bg;exact LV
     exact r1 i e d he bg
    rw[Array.getElem?_modify] at he
    split at he
    ·rename_i hi;subst hi
     rw[vU] at he;simp at he;subst he
     have hj:j < vs.length:=by rw[←s2];exact(Array.getElem?_eq_some_iff.1 vU).1
     rw[List.getElem?_set,if_pos rfl,if_pos hj] at bg
     injection bg with bg;subst bg;exact hd
    rename_i ba
    rw[List.getElem?_set,if_neg ba] at bg;exact r2 i e d' he bg
   exact af.elim
  exact af.elim
 exact af.elim
end
end Go.an
namespace Go.an
open Go Go.RowKit
variable [ck]
section
variable {P:Program} {V:Env} {w0 w:World} {I0 I:aC} {m:Nat→Value} {l L:List AO} {nid:Nat} {o:Oper} {ρ:Operand→Value} {ρT:Operand→T}
theorem CA {c:Call} {b:Builtin} (ep:c.callee = .builtin b) (ho:o.op = .call c) {s:Sem Value} (hb:∀ k,builtin b c.argTypes o.type k (c.args.map ρ)=(do pure (.value (←s)))) {u:Value} {w':World} (hs:s.run P w = .ok u w') :
  (execOp ρ o).run P w = .ok (.value u) w':=by
 unfold execOp
 simp only[ho,resolve,ep,Sem.run_bind,Sem.run_pure,Result.andThen_ok,invoke,hb,hs]
theorem V4 {zd:D}:∀ (n j:Nat),(flat (List.replicate n zd))[j]?=if j < n*zd.cells.length then zd.cells[j % zd.cells.length]? else none
 | 0,j=>by simp[flat]
 | n+1,j=>by
  have ih:=V4 (zd:=zd) n (j - zd.cells.length)
  rw[List.replicate_succ,show flat (zd::List.replicate n zd)=zd.cells++flat (List.replicate n zd) by simp[flat],List.getElem?_append]
  by_cases hj:j < zd.cells.length
  ·rw[if_pos hj,if_pos (by rw[Nat.succ_mul];omega),Nat.mod_eq_of_lt hj]
  rw[if_neg hj,ih,Nat.succ_mul,←Nat.mod_eq_sub_mod (by omega)]
  by_cases h2:j < n*zd.cells.length+zd.cells.length
  ·rw[if_pos h2,if_pos (by omega)]
  rw[if_neg h2,if_neg (by omega)]
theorem am1 {z:Value} {i:TI} (h1:rF z.cells.toList i.zero=true) (h2:yI z=i.desc.agg):(dG i.desc.agg i.zero).cells=i.zero∧z.cells.size=i.zero.length∧∀ (j:Nat) v d,z.cells[j]?=some v→i.zero[j]?=some d→Rd I v d∧d.one=true∧v.oneCell'=true:=by
 have hlen:∀ {vs:List Value} {ds:List D},rF vs ds=true→vs.length=ds.length:=by
  intro vs
  induction vs with
  | nil=>intro ds h;cases ds with | nil=>rfl | cons=>simp[rF] at h
  | cons v vs ih=>intro ds h;cases ds with
   | nil=>simp[rF] at h
   | cons d ds=>simp only[rF,Bool.and_eq_true] at h;simp[ih h.2]
 have hl:=hlen h1
 have oz:∀ (j:Nat) v d,z.cells[j]?=some v→i.zero[j]?=some d→Rd I v d∧d.one=true∧v.oneCell'=true:=fun j v d hv hd=>by
  have:=aeL I (O4 h1 (by simpa using hv) hd)
  exact⟨this.1,this.2,this.1.one this.2⟩
 refine⟨?_,by simpa using hl,oz⟩
 unfold dG
 by_cases ha:i.desc.agg=true
 ·rw[if_pos ha];rfl
 rw[if_neg ha]
 have hz:z.cells = #[z]:=by
  have:yI z=false:=by rw[h2];simpa using ha
  cases z<;>first | rfl | (simp[yI] at this)
 rw[hz] at hl
 match hzz:i.zero,hl with
 | [d],_=>
  have mn:=(oz 0 z d (by rw[hz];rfl) (by rw[hzz];rfl)).2.1
  cases d<;>first | rfl | (simp[D.one] at mn)
theorem aAc (hE:cP P V.E) (aq:aI w0 I0 w I m l) {t e:TypeId} {sz bt:Nat} {z:List D} (hs:V.E t=some ⟨sz,bt,z,.slice e⟩) {v:Value} {id:Nat} {lo hi:Option Operand} (hx:aw I m l v (.row id))
  (oD:∀ a,lo=some a→aw I m l (ρ a) (ρT a)) (yr:∀ a,hi=some a→aw I m l (ρ a) (ρT a)) (af:(fE V.E e l id (lo.map ρT) (hi.map ρT)).ob) :
  (fE V.E e l id (lo.map ρT) (hi.map ρT)).bI = .bG l∧∃ u,(Instr.sliceAt t v (lo.map ρ) (hi.map ρ) none).run P w = .ok u w∧aw I m l u (fE V.E e l id (lo.map ρT) (hi.map ρT)).t:=by
 have hu:=uo hE hs
 have dm:P.underlying t=some (.slice (P.elem t)):=by simp[Program.elem,hu]
 have he:P.elem t=e:=by simp[Program.elem,hu]
 have hint:∀ {a:T} {k:IntKind} {n:Int} {v:Value},cX a=some (k,n)→aw I m l v a→v = .int k n:=by
  intro a k n v hn hr
  unfold cX at hn
  split at hn
  ·simp at hn;obtain⟨rfl,rfl⟩:=hn;have:=dp hr;cases this;rfl
  cases hn
 unfold fE at af ⊢
 split at af
 ·rename_i e' size els hl
  split at af
  ·rename_i aS
   rw[if_pos aS]
   obtain⟨qv,E2⟩:=aS
   obtain⟨ie,oB⟩:=Option.isSome_iff_exists.1 E2
   have YF:ie.size=size:=by rw[qv];simp[bw,oB]
   have yA:(sizeOf (P.elem t)).run P w = .ok size w:=by rw[he,vq hE oB,YF]
   have hY:id < l.length:=(List.getElem?_eq_some_iff.1 hl).1
   obtain⟨A,n,c,rfl,hm⟩:∃ A n c,v = .slice A n c∧m id = .slice A n c:=by
    cases hx with
    | row A n c _ q1 q2=>exact⟨A,n,c,rfl,q2 (by unfold isRow;rw[hl];rfl)⟩
   obtain⟨xs,k1,_⟩:=aq.obj id _ hl
   rw[hm] at k1
   have gE:n=els.length∧n≤c:=by
    rcases k1.2 with ⟨h1,h2⟩ | ⟨g,cap,cur,h1,_,_,h2,_⟩
    ·injection h1 with _ h3 h4;subst h3;subst h4;exact⟨h2.symm,Nat.le_refl _⟩
    injection h1 with _ h3 h4;subst h3;subst h4;exact⟨rfl,h2⟩
   obtain⟨rfl,gE⟩:=gE
   have j7:∀ a b,(Instr.sliceAt t (.slice A els.length c) a b none).run P w=(Instr.slice t (.slice A els.length c) a b none).run P w:=fun a b=>run_sliceAt_slice w t _ a b none dm
   have fin:∀ lo hi:Nat,lo≤hi→hi≤els.length→aw I m l (sliced A lo hi c size) (.sub id lo hi):=fun lo hi h1 h2=>
    .sub _ _ _ _ _ _ hY fun e2 Ot afF iZ=>by
     rw[hl] at iZ
     have:Ot=size:=by
      rcases iZ with h | h
      ·injection h with h;injection h with _ h _;exact h.symm
      injection h with h;cases h
     subst this
     exact⟨A,_,c,hm,h1,h2,rfl⟩
   cases lo with
   | none=>
    cases hi with
    | none=>exact af.elim
    | some b=>
     simp only[Option.map_none,Option.map_some] at af ⊢
     split at af
     ·rename_i k h hb
      have hv:=hint hb (yr b rfl)
      simp only
      refine⟨trivial,_,by rw[j7,hv,run_slice_h w t A _ c dm _ _ af.1 (by omega),yA];rfl,?_⟩
      exact fin 0 h.toNat (Nat.zero_le _) (by omega)
     exact af.elim
   | some a=>
    cases hi with
    | some b=>exact af.elim
    | none=>
     simp only[Option.map_none,Option.map_some] at af ⊢
     split at af
     ·rename_i k h ha
      have hv:=hint ha (oD a rfl)
      simp only
      have:=run_slice_l w t A els.length c dm k h af.1 (by omega)
      refine⟨trivial,_,by rw[j7,hv,this,yA];rfl,?_⟩
      exact fin h.toNat els.length (by omega) (Nat.le_refl _)
     exact af.elim
  exact af.elim
 exact af.elim
theorem acY {E:dh} {e:TypeId} {l:List AO} {id:Nat} {lo hi:Option T}:(fE E e l id lo hi).bI = .bG l∨fE E e l id lo hi = .bad:=by
 unfold fE
 repeat' split
 all_goals simp
theorem UE {E:dh} {e:TypeId} {l:List AO} {id:Nat} {lo hi:Option T} {mx:T}:(eJ E e l id lo hi mx).bI = .bG l∨eJ E e l id lo hi mx = .bad:=by
 unfold eJ
 repeat' split
 all_goals simp
theorem aAb (hE:cP P V.E) (aq:aI w0 I0 w I m l) {t e:TypeId} {sz bt:Nat} {z:List D} (hs:V.E t=some ⟨sz,bt,z,.slice e⟩) {v:Value} {id:Nat} {lo hi:Option Operand} {mx:Operand} (hx:aw I m l v (.row id))
  (oD:∀ a,lo=some a→aw I m l (ρ a) (ρT a)) (yr:∀ a,hi=some a→aw I m l (ρ a) (ρT a)) (hmx:aw I m l (ρ mx) (ρT mx)) (af:(eJ V.E e l id (lo.map ρT) (hi.map ρT) (ρT mx)).ob) :
  (eJ V.E e l id (lo.map ρT) (hi.map ρT) (ρT mx)).bI = .bG l∧(eJ V.E e l id (lo.map ρT) (hi.map ρT) (ρT mx)).t = .undef∧∃ u,(Instr.sliceAt t v (lo.map ρ) (hi.map ρ) (some (ρ mx))).run P w = .ok u w:=by
 have hu:=uo hE hs
 have dm:P.underlying t=some (.slice (P.elem t)):=by simp[Program.elem,hu]
 have he:P.elem t=e:=by simp[Program.elem,hu]
 have hint:∀ {a:T} {k:IntKind} {n:Int} {v:Value},cX a=some (k,n)→aw I m l v a→v = .int k n:=by
  intro a k n v hn hr
  unfold cX at hn
  split at hn
  ·simp at hn;obtain⟨rfl,rfl⟩:=hn;have:=dp hr;cases this;rfl
  cases hn
 cases lo with
 | none=>unfold eJ at af;simp only[Option.map_none] at af;split at af<;>simp_all [R.bad]
 | some a=>
 cases hi with
 | none=>unfold eJ at af;simp only[Option.map_none] at af;split at af<;>simp_all [R.bad]
 | some b=>
 unfold eJ at af ⊢
 simp only[Option.map_some] at af ⊢
 split at af
 ·rename_i e' size els a' b' hl AW bP
  injection AW with AW;injection bP with bP;subst AW;subst bP
  split at af
  ·rename_i k1 n k2 h k3 q hn hh hq
   split at af
   ·rename_i aS
    simp only[hn,hh,hq,if_pos aS]
    refine⟨trivial,trivial,?_⟩
    obtain⟨qv,E2⟩:=aS
    obtain⟨ie,oB⟩:=Option.isSome_iff_exists.1 E2
    have yA:(sizeOf (P.elem t)).run P w = .ok ie.size w:=by rw[he,vq hE oB]
    obtain⟨A,n0,c,rfl,hm⟩:∃ A n c,v = .slice A n c∧m id = .slice A n c:=by
     cases hx with
     | row A n c _ q1 q2=>exact⟨A,n,c,rfl,q2 (by unfold isRow;rw[hl];rfl)⟩
    obtain⟨xs,k1,_⟩:=aq.obj id _ hl
    rw[hm] at k1
    have gE:n0=els.length∧n0≤c:=by
     rcases k1.2 with ⟨h1,h2⟩ | ⟨g,cap,cur,h1,_,_,h2,_⟩
     ·injection h1 with _ h3 h4;subst h3;subst h4;exact⟨h2.symm,Nat.le_refl _⟩
     injection h1 with _ h3 h4;subst h3;subst h4;exact⟨rfl,h2⟩
    obtain⟨rfl,gE⟩:=gE
    have v1:=hint hn (oD a rfl)
    have v2:=hint hh (yr b rfl)
    have v3:=hint hq hmx
    refine⟨_,by rw[run_sliceAt_slice w t _ _ _ _ dm,v1,v2,v3,run_slice_lhm w t A _ c dm _ _ _ n h q af.1 af.2.1 af.2.2.1 (by omega),yA];rfl⟩
   exact af.elim
  exact af.elim
 exact af.elim
theorem avd {E:dh} {t:TypeId} {nid:Nat} {a b:T} (af:(gG E t l nid a b).ob):∃ l',(gG E t l nid a b).bI = .bG l':=by
 revert af
 unfold gG
 repeat' split
 all_goals simp[R.bad]
theorem ave (hE:cP P V.E) (aq:aI w0 I0 w I m l) {t:TypeId} {va vb:Value} {a b:T} (ha:aw I m l va a) (hb:aw I m l vb b) (af:(gG V.E t l l.length a b).ob) :
  ∃ l' w' v m',(gG V.E t l l.length a b).bI = .bG l'∧(Instr.makeSlice t va vb).run P w = .ok v w'∧Le I m l I m' l'∧aI w0 I0 w' I m' l'∧aw I m' l' v (gG V.E t l l.length a b).t:=by
 have hint:∀ {a:T} {k:IntKind} {n:Int} {v:Value},cX a=some (k,n)→aw I m l v a→v = .int k n:=by
  intro a k n v hn hr
  unfold cX at hn
  split at hn
  ·simp at hn;obtain⟨rfl,rfl⟩:=hn;have:=dp hr;cases this;rfl
  cases hn
 unfold gG at af ⊢
 split at af
 ·rename_i e ka n kb c hs hia hib
  have hu:=uo hE hs
  split at af
  ·rename_i i hi
   split at af
   ·rename_i cC
    simp only[hi,if_pos cC]
    obtain⟨h0,rfl,QX,hmx⟩:=af
    have pn:=hint hia ha
    have Bg:=hint hib hb
    obtain⟨N,rfl⟩:=Int.eq_ofNat_of_zero_le h0
    subst pn;subst Bg
    obtain⟨x,z,q1,q2,q3,q4,q5,q6,q7,q8⟩:=jj (hE e i hi)
    obtain⟨d1,d2,d3⟩:=am1 (I:=I) q5 q6
    have ri:z.cells.size=i.size:=by rw[d2,q8]
    have hbn:x.bytes*N≤281474976710656:=by
     rw[q3,Nat.mul_comm]
     have:((N*i.bytes:Nat):Int)≤140737488355328:=by rw[Int.natCast_mul];exact QX
     omega
    obtain⟨w',h1,h2,h3⟩:=run_make_full (P:=P) w w0.heap.size t e x z i.size hu q1 q4 q2 ka kb N hbn (by unfold maxLen;omega) aq.below.size
    have as6:(List.replicate N (dG i.desc.agg i.zero)).length=N:=by simp
    obtain⟨r1,r2,r3⟩:=aq.FC (w':=w') (v:= .slice (some ⟨w.heap.size,0,none⟩) N N) (row:=none) (lo:=l) (e:=e) (size:=i.size) (els:=List.replicate N (dG i.desc.agg i.zero)) rfl (fun k a ha=> .inr ha) (fun _ _ _ h=>h)
     h3 (qD _ _ _ _ _ h1) (fun b hb=>by cases hb) (fun b hb=>by cases hb)
     (
      fun b hb=>by
      simp[own] at hb;subst hb
      refine⟨aq.below.size,aq.sat.gp (Nat.le_refl _),fun k hk he=>?_⟩
      obtain⟨a,ha,qo⟩:=bZ.1 hk
      have:=((aq.obj k a ha).lt qo he).1;omega)
     (
      by
       rw[as6];exact h2) (fun d hd=>by
      have:=List.eq_of_mem_replicate hd
      subst this
      rw[d1]
      refine⟨q8,fun x hx=>?_⟩
      obtain⟨j,hj,rfl⟩:=List.mem_iff_getElem.1 hx
      exact(d3 j _ _ (Array.getElem?_eq_getElem (by rw[d2];exact hj)) (List.getElem?_eq_getElem hj)).2.1) (fun j u y hu hy=>by
      rw[V4,d1,q8] at hy
      split at hy
      ·rename_i hj
       have hm:j % i.size < z.cells.size:=by rw[ri];exact Nat.mod_lt _ cC
       have dm:u=z.cells[j % i.size]:=by
        simp[madeCells,ri,hj] at hu
        rw[getElem!_pos z.cells _ hm] at hu
        exact hu.symm
       subst dm
       exact(d3 _ _ y (Array.getElem?_eq_getElem hm) hy).1
      cases hy) ⟨_,_,_,rfl⟩
    exact⟨_,w',_,_,rfl,h1,r1,r2,r3⟩
   exact af.elim
  exact af.elim
 exact af.elim
theorem anJ {E:dh} {t:TypeId} {x:T} (af:(gB E t l x).ob):∃ l',(gB E t l x).bI = .bG l':=by
 revert af
 unfold gB
 repeat' split
 all_goals simp[R.bad]
theorem anK (hE:cP P V.E) (aq:aI w0 I0 w I m l) {t ty:TypeId} {v:Value} {x:T} (hx:aw I m l v x) (af:(gB V.E t l x).ob) :
  (gB V.E t l x).t = .d (.bn [])∧∃ l' w',(gB V.E t l x).bI = .bG l'∧(Builtin.clear_ #[t] ty #[v]).run P w = .ok (.tuple #[]) w'∧Le I m l I m l'∧aI w0 I0 w' I m l':=by
 unfold gB at af ⊢
 split at af
 ·rename_i e id lo hi hs
  have hu:=uo hE hs
  split at af
  ·rename_i i e' size els gi hl
   split at af
   ·rename_i hc
    simp only[gi,hl,if_pos hc]
    obtain⟨aS,rfl,cC⟩:=hc
    subst aS
    refine⟨trivial,?_⟩
    obtain⟨A,n,c,rfl,A0,n0,c0,hm,h1,h2,h3⟩:∃ A n c,v = .slice A n c∧∃ A0 n0 c0,m id = .slice A0 n0 c0∧lo≤els.length∧els.length≤n0∧Value.slice A n c=sliced A0 lo els.length c0 i.size:=by
     cases hx with
     | sub A n c _ _ _ q1 q2=>exact⟨A,n,c,rfl,q2 e' i.size els (.inl hl)⟩
    obtain⟨xs,k1,k2,k3,k4⟩:=aq.obj id _ hl
    rw[hm] at k1
    obtain⟨cw,tX⟩:=k1
    injection h3 with hA hn iY
    have EW:n0=els.length:=by
     rcases tX with ⟨h1,h2⟩ | ⟨g,cap,cur,h1,_⟩
     ·injection h1 with _ h3 h4;omega
     injection h1
    subst EW
    rcases Nat.eq_or_lt_of_le h1 with oD | oD
    ·
     have yw:n=0:=by omega
     subst yw
     have sb:l.set id (.row e' i.size (els.take lo++List.replicate (els.length - lo) (dG i.desc.agg i.zero)))=l:=by
      rw[show els.length - lo=0 by omega,oD]
      simp
      apply List.ext_getElem?
      intro k
      rw[List.getElem?_set]
      split
      ·rename_i hk;subst hk;rw[hl];simp;exact(List.getElem?_eq_some_iff.1 hl).1
      rfl
     refine⟨_,w,rfl,?_,?_,?_⟩
     ·cases A<;>simp[Builtin.clear_,run_underlying hu]
     ·rw[sb];exact .refl ..
     rw[sb];exact aq
    rcases tX with ⟨h1,h2⟩ | ⟨g,cap,cur,hv,hb,hg,gE,rY,eW,jc⟩
    ·omega
    injection hv with jd _ yC
    subst yC
    subst jd
    have QS:A=some ⟨g,lo*i.size,none⟩:=by rw[hA,if_neg (by omega)];simp[Addr.add_lit]
    obtain⟨m',rfl⟩:∃ m',n=m'+1:=⟨n - 1,by omega⟩
    obtain⟨zv,z1,z2,z3,z4⟩:=Ud hE gi w
    obtain⟨d1,d2,d3⟩:=am1 (I:=I) z2 z3
    have ri:zv.cells.size=i.size:=by rw[d2,z4]
    have zL:(Builtin.zeroCells zv.cells (m'+1)).toList.length=(els.length - lo)*i.size:=by rw[Array.length_toList,size_zeroCells,ri,hn]
    have hzg:∀ (j:Nat),j < (els.length - lo)*i.size→(Builtin.zeroCells zv.cells (m'+1)).toList[j]?=zv.cells[j % i.size]?:=fun j hj=>by
     have:j % i.size < zv.cells.size:=by rw[ri];exact Nat.mod_lt _ cC
     simp[Builtin.zeroCells,ri,hn,hj]
     rw[Array.getElem?_eq_getElem this]
     exact congrArg some (getElem!_pos zv.cells _ this)
    have mn:∀ u∈(Builtin.zeroCells zv.cells (m'+1)).toList,u.oneCell'=true:=fun u dm=>by
     obtain⟨j,hj,rfl⟩:=List.mem_iff_getElem.1 dm
     rw[zL] at hj
     have hg:=hzg j hj
     rw[List.getElem?_eq_getElem (by rw[zL];exact hj)] at hg
     have hm:j % i.size < i.zero.length:=by rw[z4];exact Nat.mod_lt _ cC
     exact(d3 _ _ i.zero[j % i.size] hg.symm (List.getElem?_eq_getElem hm)).2.2
    have hle:(els.length - lo)*i.size+lo*i.size=els.length*i.size:=by rw[←Nat.add_mul];congr 1;omega
    have L0:els.length*i.size≤cur.size:=by rw[eW];exact Nat.mul_le_mul_right _ gE
    have gQ:=run_storeCells_at P g (lo*i.size) e' (Builtin.zeroCells zv.cells (m'+1)).toList 0 cur w hg (by rw[zL];omega) mn
    simp only[Nat.add_zero] at gQ
    generalize hzc:(Builtin.zeroCells zv.cells (m'+1)).toList=zc at *
    rw[zL] at gQ
    generalize fA:(cur.toList.take (lo*i.size)++zc++cur.toList.drop (lo*i.size+(els.length - lo)*i.size)).toArray=new at gQ
    have uV:new.toList=cur.toList.take (lo*i.size)++zc++cur.toList.drop (lo*i.size+(els.length - lo)*i.size):=by subst fA;simp
    have pj:new.size=cur.size:=by
     rw[←Array.length_toList,uV]
     simp only[List.length_append,List.length_take,List.length_drop,Array.length_toList,zL]
     omega
    have E9:new.toList.take (els.length*i.size)=xs.take (lo*i.size)++zc:=by
     rw[uV,←jc,UI _ _ _ _ _ (by omega) (by rw[Array.length_toList];exact L0) zL]
     rw[List.drop_of_length_le (by rw[List.length_take];omega)]
     simp
    have vX:(els.take lo++List.replicate (els.length - lo) (dG i.desc.agg i.zero)).length=els.length:=by simp;omega
    obtain⟨t1,t2⟩:=aq.OO (n:=els.length) (c:=c0) (cur:=cur) (new:=new) (els':=els.take lo++List.replicate (els.length - lo) (dG i.desc.agg i.zero)) (xs:=xs.take (lo*i.size)++zc) hl hm hg
     ⟨by rw[vX];simp only[List.length_append,List.length_take,cw,zL];omega,.inr ⟨g,c0,new,by rw[vX],hb,setRow_heap w g cur new e' (0,0) hg,by rw[vX];exact gE,rY,by rw[pj,eW],by rw[vX];exact E9⟩⟩
     (
      fun d hd=>by
      rcases List.mem_append.1 hd with hd | hd
      ·exact k2 d (List.mem_of_mem_take hd)
      have:=List.eq_of_mem_replicate hd
      subst this
      rw[d1]
      refine⟨z4,fun x hx=>?_⟩
      obtain⟨j,hj,rfl⟩:=List.mem_iff_getElem.1 hx
      have gO:j < zv.cells.size:=by rw[d2];exact hj
      exact(d3 j _ _ (Array.getElem?_eq_getElem gO) (List.getElem?_eq_getElem hj)).2.1)
     (
      fun j u y hu hy=>by
      have bS:(flat els).length=els.length*i.size:=ql els (fun d hd=>(k2 d hd).1)
      rw[K6,Qu els (fun d hd=>(k2 d hd).1),List.getElem?_append] at hy
      rw[List.getElem?_append] at hu
      have l1:(xs.take (lo*i.size)).length=lo*i.size:=by rw[List.length_take];omega
      have l2:((flat els).take (lo*i.size)).length=lo*i.size:=by rw[List.length_take];omega
      rw[l1] at hu;rw[l2] at hy
      by_cases hj:j < lo*i.size
      ·rw[if_pos hj] at hu hy
       rw[List.getElem?_take,if_pos hj] at hu hy
       exact k3 j u y hu hy
      rw[if_neg hj] at hu hy
      rw[V4,d1,z4] at hy
      split at hy
      ·rename_i ES
       rw[hzg _ ES] at hu
       exact(d3 _ u y hu hy).1
      cases hy)
    refine⟨_,_,rfl,?_,t1,t2⟩
    rw[QS]
    simp only[Builtin.clear_,List.getElem?_toArray,List.getElem?_cons_zero]
    simp[run_underlying hu,z1,hzc,gQ]
   exact af.elim
  exact af.elim
 exact af.elim
theorem ax0 (hE:cP P V.E) (aq:aI w0 I0 w I m L) {t:TypeId} {mm k x:Operand} (ho:o.op = .mapUpdate t mm k x∨o.op = .insert t mm k x) (hr:∀ x∈o.op.operands,aw I m L (ρ x) (ρT x)) (af:(gn V.E t l (ρT mm) (ρT k) (ρT x)).ob) :
  cy P w0 I0 o ρ w I m l L nid (gn V.E t l (ρT mm) (ρT k) (ρT x)):=by
 have hm:=hr mm (by rcases ho with ho | ho<;>simp[ho,Op.operands])
 have hk:=hr k (by rcases ho with ho | ho<;>simp[ho,Op.operands])
 have hx:=hr x (by rcases ho with ho | ho<;>simp[ho,Op.operands])
 have dI:∃ l',(gn V.E t l (ρT mm) (ρT k) (ρT x)).bI = .bG l'∧(gn V.E t l (ρT mm) (ρT k) (ρT x)).t = .undef:=by
  generalize ρT mm=ts at *;generalize ρT k=tk at *;generalize ρT x=tx at *
  unfold gn at af ⊢
  repeat' split at af
  all_goals first | exact af.elim | skip
  all_goals simp only[*]
  all_goals exact⟨_,rfl,rfl⟩
 obtain⟨l',iK,ht⟩:=dI
 unfold cy
 rw[iK]
 rintro rfl hn
 obtain⟨uc,w',h1,h2,h3,h4⟩:=axZ hE aq hm hk hx af
 rw[iK] at h1;injection h1 with h1;subst h1
 have hex:(execOp ρ o).run P w = .ok .skip w':=by unfold execOp;rcases ho with ho | ho<;>simp[ho,h2]
 simp only[hex,cz]
 exact⟨I,m,h3,h4,by rw[ht];exact .undef _⟩
theorem ax1 (hE:cP P V.E) (aq:aI w0 I0 w I m L) {t:TypeId} {mm k x:Operand} (ho:o.op = .mapUpdate t mm k x∨o.op = .insert t mm k x) (hr:∀ x∈o.op.operands,aw I m L (ρ x) (ρT x)) (af:(gm V.E t l (ρT mm) (ρT k) (ρT x)).ob) :
  cy P w0 I0 o ρ w I m l L nid (gm V.E t l (ρT mm) (ρT k) (ρT x)):=by
 have hm:=hr mm (by rcases ho with ho | ho<;>simp[ho,Op.operands])
 have hk:=hr k (by rcases ho with ho | ho<;>simp[ho,Op.operands])
 have hx:=hr x (by rcases ho with ho | ho<;>simp[ho,Op.operands])
 have dI:∃ l',(gm V.E t l (ρT mm) (ρT k) (ρT x)).bI = .bG l'∧(gm V.E t l (ρT mm) (ρT k) (ρT x)).t = .undef:=by
  generalize ρT mm=ts at *;generalize ρT k=tk at *;generalize ρT x=tx at *
  unfold gm at af ⊢
  repeat' split at af
  all_goals first | exact af.elim | skip
  all_goals simp only[*]
  all_goals exact⟨_,rfl,rfl⟩
 obtain⟨l',iK,ht⟩:=dI
 unfold cy
 rw[iK]
 rintro rfl hn
 obtain⟨uc,w',h1,h2,h3,h4⟩:=axW hE aq hm hk hx af
 rw[iK] at h1;injection h1 with h1;subst h1
 have hex:(execOp ρ o).run P w = .ok .skip w':=by unfold execOp;rcases ho with ho | ho<;>simp[ho,h2]
 simp only[hex,cz]
 exact⟨I,m,h3,h4,by rw[ht];exact .undef _⟩
theorem akk (hE:cP P V.E) (aq:aI w0 I0 w I m L) {t:TypeId} {mm k x:Operand} (ho:o.op = .mapUpdate t mm k x∨o.op = .insert t mm k x) (hr:∀ x∈o.op.operands,aw I m L (ρ x) (ρT x)) (af:(iO V.E t l (ρT mm) (ρT k) (ρT x)).ob) :
  cy P w0 I0 o ρ w I m l L nid (iO V.E t l (ρT mm) (ρT k) (ρT x)):=by
 unfold iO at af ⊢
 split
 ·rename_i h;rw[if_pos h] at af;exact ax1 hE aq ho hr af
 rename_i h;rw[if_neg h] at af;exact ax0 hE aq ho hr af
theorem au2 (hE:cP P V.E) (aq:aI w0 I0 w I m L) (hc:jm l L) {t:TypeId} {x k:Value} {tx tk:T} {ok:Bool} (hx:aw I m L x tx) (hk:aw I m L k tk) (af:(iC V.E t l tx tk ok).ob) :
  (iC V.E t l tx tk ok).bI = .none∧∃ u,(Instr.lookup t x k ok).run P w = .ok u w∧aw I m L u (iC V.E t l tx tk ok).t:=by
 unfold iC at af ⊢
 split
 ·rename_i h;rw[if_pos h] at af;exact au1 hE aq hc hx hk af
 rename_i h;rw[if_neg h] at af;exact look_ok hE aq hc hx hk af
theorem AK (hV:bO P V) (aq:aI w0 I0 w I m L) (hc:jm l L) (hr:∀ x∈o.op.operands,aw I m L (ρ x) (ρT x)) (af:(evalOp V ρT l nid o).ob):cy P w0 I0 o ρ w I m l L nid (evalOp V ρT l nid o):=by
 unfold evalOp at af ⊢
 split at af
 ·
  rename_i x ho
  exact cy.val aq rfl (u:=ρ x) (by unfold execOp;simp[ho]) (ac9 (hr x (by simp[ho,Op.operands])))
 ·
  rename_i x ho
  exact cy.val aq rfl (u:=ρ x) (by unfold execOp;simp[ho]) (ac9 (hr x (by simp[ho,Op.operands])))
 ·
  rename_i c a b ho
  exact axO aq ho hr af
 ·
  rename_i e x ho
  exact anp aq ho (hr x (by simp[ho,Op.operands])) af
 ·
  rename_i e ho
  split at af
  ·rename_i i hi
   try simp only[hi]
   exact ana hV.E aq ho hi
  exact af.elim
 ·
  rename_i t a ho
  obtain⟨h1,u,h2,h3⟩:=aiP hV.E aq hc (ada (hr a (by simp[ho,Op.operands]))) af
  exact cy.val aq h1 (by unfold execOp;simp[ho,h2]) h3
 ·
  rename_i t a x ho
  split at af
  ·rename_i hn
   simp only[if_pos hn]
   have ha:=hr a (by simp[ho,Op.operands])
   have hx:=hr x (by simp[ho,Op.operands])
   generalize hta:ρT a=ta at *
   unfold jC at af ⊢
   split at af
   ·rename_i id off y
    split at af
    ·rename_i t' cs hl
     split at af
     ·rename_i hle
      simp only[if_pos hle]
      rintro rfl sZ
      generalize pn:ρ a=va at ha
      cases ha with
      | ptr _ b _ q1 q2=>
       obtain⟨w',h1,h2⟩:=az8 hV.E aq hl q2 hx af hn.1 (by omega) hle
       have hex:(execOp ρ o).run P w = .ok .skip w':=by unfold execOp;simp[ho,pn,h1]
       simp only[hex,cz]
       exact⟨I,m,Le.alc hl,h2,.undef _⟩
     exact af.elim
    exact af.elim
   ·rename_i id k y XE
    split at af
    ·rename_i e' size els hl
     rw[XE] at hx hn
     obtain⟨tW,LD,HM⟩:=af
     rintro rfl sZ
     generalize pn:ρ a=va at ha
     cases ha with
     | dH ad _ _ _ q1 q2=>
      obtain⟨w',h1,h2,h3⟩:=azF (ty:=t) hV.E aq hl (.dH ad id k 0 q1 q2) (dp hx) tW LD HM (by simpa [bf] using hn.1) (by have:=hn.1;simp[bf] at this;omega)
      have hex:(execOp ρ o).run P w = .ok .skip w':=by unfold execOp;simp[ho,pn,h1]
      simp only[hex,cz]
      exact⟨I,m,h2,h3,.undef _⟩
    exact af.elim
   ·rename_i id k off y XE
    split at af
    ·rename_i e' size els hl
     split at af
     ·rename_i cs eW
      rw[XE] at hx hn
      obtain⟨tW,LD,HM⟩:=af
      rintro rfl sZ
      generalize pn:ρ a=va at ha
      have qY:els[k]?=some (.agg cs):=by
       unfold jU at eW
       rw[List.getElem?_eq_getElem HM] at eW ⊢
       simp at eW;rw[eW]
      cases ha with
      | dH ad _ _ _ q1 q2=>
       obtain⟨w',h1,h2,h3⟩:=azE (ty:=t) hV.E aq hl (.dH ad id k (off+1) q1 q2) (dp hx) qY tW LD HM (by simpa [bf] using hn.1) (by have:=hn.1;simp[bf] at this;omega)
       have hex:(execOp ρ o).run P w = .ok .skip w':=by unfold execOp;simp[ho,pn,h1]
       simp only[hex,cz]
       exact⟨I,m,h2,h3,.undef _⟩
     exact af.elim
    exact af.elim
   exact af.elim
  exact af.elim
 ·
  rename_i s x f ho
  obtain⟨h1,u,h2,h3⟩:=aoP (w:=w) hV.E (ada (hr x (by simp[ho,Op.operands]))) af
  exact cy.val aq h1 (by unfold execOp;simp[ho,h2]) h3
 ·
  rename_i s x f ho
  obtain⟨h1,u,h2,h3⟩:=aoO (w:=w) hV.E (hr x (by simp[ho,Op.operands])) af
  exact cy.val aq h1 (by unfold execOp;simp[ho,h2]) h3
 ·
  rename_i op ty x y t' ho
  have hx:=hr x (by simp[ho,Op.operands])
  have hy:=hr y (by simp[ho,Op.operands])
  split at af
  ·rename_i a b h1 h2
   rw[h1] at hx;rw[h2] at hy
   unfold gI at af ⊢
   split at af
   ·rename_i r ob hb
    obtain⟨z,h3,h4⟩:=ann (w:=w) (x:=x) (y:=y) hV.eq (dp hx) (dp hy) hb af
    try simp only[h1,h2,hb]
    exact cy.val aq rfl (by unfold execOp;simp only[ho,Sem.run_bind] at h3 ⊢;rw[h3];rfl) (.d _ _ h4)
   exact af.elim
  exact af.elim
 ·
  rename_i op ty x ho
  have hx:=hr x (by simp[ho,Op.operands])
  split at af
  ·rename_i a h1
   rw[h1] at hx
   unfold gI at af ⊢
   split at af
   ·rename_i r ob hb
    obtain⟨z,h3,h4⟩:=aAo (P:=P) (w:=w) (dp hx) hb af
    try simp only[h1,hb]
    exact cy.val aq rfl (by unfold execOp;simp[ho,h3]) (.d _ _ h4)
   exact af.elim
  exact af.elim
 ·
  rename_i t x i ho
  obtain⟨h1,u,h2,h3⟩:=atJ hV.E aq hc (ada (hr x (by simp[ho,Op.operands]))) (hr i (by simp[ho,Op.operands])) af
  exact cy.val aq h1 (by unfold execOp;simp[ho,h2]) h3
 ·
  rename_i t x lo hi ho
  have hx:=hr x (by simp[ho,Op.operands])
  split at af
  ·rename_i e size els hs Bi
   rw[Bi] at hx
   split at af
   ·rename_i aS
    simp only[if_pos aS]
    obtain⟨h1,u,h2,h3⟩:=alf (w:=w) (lo:=lo) (hi:=hi) (ρ:=ρ) (ρT:=ρT) hV.E hs hx (fun a ha=>hr a (by subst ha;simp[ho,Op.operands])) (fun a ha=>hr a (by subst ha;simp[ho,Op.operands]))
     (fun s' e' he=>by injection he with he;injection he with h1 h2;subst h1;exact aS) af
    exact cy.val aq h1 (by unfold execOp;simp[ho,h2]) h3
   exact af.elim
  ·rename_i e id hs Bi
   rw[Bi] at hx
   split at af
   ·rename_i mo
    simp only[if_pos mo]
    have dI:(fE V.E e l id (lo.map ρT) (hi.map ρT)).bI = .bG l:=by
     unfold fE at af ⊢
     repeat' split at af
     all_goals first | exact af.elim | skip
     all_goals simp only[*]
     all_goals rfl
    unfold cy
    rw[dI]
    rintro rfl sZ
    obtain⟨h1,u,h2,h3⟩:=aAc (w:=w) (lo:=lo) (hi:=hi) (ρ:=ρ) (ρT:=ρT) hV.E aq hs hx (fun a ha=>hr a (by subst ha;simp[ho,Op.operands])) (fun a ha=>hr a (by subst ha;simp[ho,Op.operands])) af
    have hex:(execOp ρ o).run P w = .ok (.value u) w:=by unfold execOp;simp[ho,h2]
    simp only[hex,cz]
    exact⟨I,m,.refl ..,aq,h3⟩
   rename_i mo
   simp only[if_neg mo]
   split at af
   ·rename_i size els l' hd
    split at af
    ·rename_i aS
     simp only[if_pos aS]
     rintro rfl sZ
     obtain⟨J,le,r1,dg,_⟩:=Jw aq hx hd
     obtain⟨h1,u,h2,h3⟩:=alf (w:=w) (lo:=lo) (hi:=hi) (ρ:=ρ) (ρT:=ρT) (I:=J) (m:=m) (L:=l') hV.E hs (.d _ _ dg) (fun a ha=>(hr a (by subst ha;simp[ho,Op.operands])).mono le) (fun a ha=>(hr a (by subst ha;simp[ho,Op.operands])).mono le)
      (fun s' e' he=>by injection he with he;injection he with h1 h2;subst h1;exact aS) af
     have hex:(execOp ρ o).run P w = .ok (.value u) w:=by unfold execOp;simp[ho,h2]
     simp only[hex,cz]
     exact⟨J,m,le,r1,h3⟩
    exact af.elim
   exact af.elim
  ·rename_i n e cs hs Bi
   rw[Bi] at hx
   split at af
   ·rename_i dj
    simp only[if_pos dj]
    obtain⟨h1,h2⟩:=dj
    cases lo<;>cases hi<;>simp at h1 h2
    obtain⟨h1,u,h2,h3⟩:=azY (P:=P) (w:=w) hV.E hs hx af
    exact cy.val aq h1 (by unfold execOp;simp[ho,h2]) h3
   exact af.elim
  exact af.elim
 ·
  rename_i t x lo hi mx ho
  have hx:=hr x (by simp[ho,Op.operands])
  split at af
  ·rename_i e id hs Bi
   rw[Bi] at hx
   have dI:(eJ V.E e l id (lo.map ρT) (hi.map ρT) (ρT mx)).bI = .bG l:=by
    rcases UE (E:=V.E) (e:=e) (l:=l) (id:=id) (lo:=lo.map ρT) (hi:=hi.map ρT) (mx:=ρT mx) with h | h
    ·exact h
    rw[h] at af;exact af.elim
   unfold cy
   rw[dI]
   rintro rfl sZ
   obtain⟨h1,h0,u,h2⟩:=aAb (w:=w) (lo:=lo) (hi:=hi) (mx:=mx) (ρ:=ρ) (ρT:=ρT) hV.E aq hs hx (fun a ha=>hr a (by subst ha;simp[ho,Op.operands])) (fun a ha=>hr a (by subst ha;simp[ho,Op.operands])) (hr mx (by simp[ho,Op.operands])) af
   have hex:(execOp ρ o).run P w = .ok (.value u) w:=by unfold execOp;simp[ho,h2]
   simp only[hex,cz,h0]
   exact⟨I,m,.refl ..,aq,.undef _⟩
  exact af.elim
 ·
  rename_i t parts ho
  split at af
  ·rename_i z fs hs
   split at af
   ·rename_i bL
    split at af
    ·rename_i ds hf
     simp only[if_pos bL]
     obtain⟨u,h1,h2⟩:=anr (P:=P) (w:=w) (I:=I) (m:=m) (L:=L) (ρ:=ρ) (ρT:=ρT) hV.E hs (fun p hp=>hr p.2 (by simp only[ho,Op.operands];simp;exact⟨p.1,by simpa using hp⟩)) hf (fun f LK=>List.all_eq_true.1 bL f LK)
     exact cy.val aq rfl (by unfold execOp;simp[ho,h1]) h2
    exact af.elim
   exact af.elim
  ·rename_i z n e hs
   split at af
   ·rename_i bL
    split at af
    ·rename_i ds hf
     simp only[if_pos bL]
     obtain⟨u,h1,h2⟩:=anq (P:=P) (w:=w) (I:=I) (m:=m) (L:=L) (ρ:=ρ) (ρT:=ρT) hV.E hs (fun p hp=>hr p.2 (by simp only[ho,Op.operands];simp;exact⟨p.1,by simpa using hp⟩)) hf bL
     exact cy.val aq rfl (by unfold execOp;simp[ho,h1]) h2
    exact af.elim
   exact af.elim
  exact af.elim
 ·
  rename_i t len parts ho
  split at af
  ·rename_i e hs
   split at af
   ·rename_i he
    simp only[if_pos he]
    split at af
    ·rename_i hlen
     simp only[if_pos hlen]
     subst hlen
     rintro rfl rfl
     have Bc:parts = #[]:=by simpa using af
     subst Bc
     have hu:=uo hV.E hs
     obtain⟨i,hi⟩:=Option.isSome_iff_exists.1 he.1
     have aS:bw V.E e=i.size:=by simp[bw,hi]
     have hex:(execOp ρ o).run P w = .ok (.value (.slice (some ⟨w.heap.size,0,none⟩) 0 0)) (w.alloc (.cells #[] e)):=by
      unfold execOp
      simp[ho,Instr.buildSlice,run_underlying hu,vq hV.E hi,Instr.fill,newRow,Array.range_zero']
     simp only[hex,cz]
     obtain⟨q1,q2,q3⟩:=aq.FC (w':=w.alloc (.cells #[] e)) (v:= .slice (some ⟨w.heap.size,0,none⟩) 0 0) (row:=none) (lo:=L) (e:=e) (size:=bw V.E e) (els:=[]) (xs:=[]) rfl (fun k a ha=> .inr ha) (fun _ _ _ h=>h)
      (World.grownBy_alloc w _ _) (Nat.le_refl _) (fun b hb=>by cases hb) (fun b hb=>by cases hb)
      (
       fun b hb=>by
       simp[own] at hb;subst hb
       refine⟨aq.below.size,aq.sat.gp (Nat.le_refl _),fun k hk he=>?_⟩
       obtain⟨a,ha,qo⟩:=bZ.1 hk
       have:=((aq.obj k a ha).lt qo he).1;omega)
      ⟨by simp,.inr ⟨w.heap.size,0,#[],rfl,aq.below.size,heap_alloc_new w _,Nat.zero_le _,Nat.zero_le _,by simp,by simp⟩⟩ (by simp) (by simp[flat]) ⟨_,_,_,rfl⟩
     exact⟨I,_,q1,q2,q3⟩
    rename_i hlen
    simp only[if_neg hlen]
    split at af
    ·rename_i ds hm
     split at af
     ·rename_i iY
      simp only[if_pos iY]
      obtain⟨p1,p2⟩:=aiW (I:=I) (m:=m) (L:=L) (ρ:=ρ) parts.toList ds (fun p hp=>hr p.2 (by simp only[ho,Op.operands];simp;exact⟨p.1,by simpa using hp⟩)) hm
      obtain⟨w',J,h1,h2,h3,h4⟩:=ae8 hV.E aq hs (ρ:=ρ) p1 p2 he hlen iY
      unfold cy
      have hex:(execOp ρ o).run P w = .ok (.value (.slice (some ⟨w.heap.size,0,none⟩) len len)) w':=by unfold execOp;simp[ho,h1]
      simp only[R.ok,hex,cz]
      exact⟨J,h2,h3,.d _ _ h4⟩
     exact af.elim
    rename_i hm
    split at af
    ·rename_i ds l1 hd
     split at af
     ·rename_i iY
      simp only[if_pos iY]
      rintro rfl rfl
      have dV:∀ (i:Nat) v t,(parts.toList.map fun p=>ρ p.2)[i]?=some v→(parts.toList.map fun p=>ρT p.2)[i]?=some t→aw I m L v t:=fun i v t hv ht=>by
       rw[List.getElem?_map] at hv ht
       cases hp:parts.toList[i]? with
       | none=>simp[hp] at hv
       | some p=>
        simp[hp] at hv ht;subst hv;subst ht
        refine hr p.2 ?_
        have:=List.mem_of_getElem? hp
        simp only[ho,Op.operands];simp;exact⟨p.1,by simpa using this⟩
      obtain⟨J1,pS,r1,k1,k2,_⟩:=DQ _ L I (parts.toList.map fun p=>ρ p.2) ds l1 aq (by simp) dV hd
      obtain⟨w',J,h1,h2,h3,h4⟩:=ae8 hV.E r1 hs (ρ:=ρ) (by simpa using k1) (fun i p d hp bg=>k2 i _ d (by rw[List.getElem?_map,hp];rfl) bg) he hlen iY
      have hex:(execOp ρ o).run P w = .ok (.value (.slice (some ⟨w.heap.size,0,none⟩) len len)) w':=by unfold execOp;simp[ho,h1]
      simp only[hex,cz]
      exact⟨J,_,pS.trans h2,h3,.d _ _ h4⟩
     exact af.elim
    exact af.elim
   exact af.elim
  exact af.elim
 ·
  rename_i x i ho
  have hx:=hr x (by simp[ho,Op.operands])
  split at af
  ·rename_i ds Mc
   rw[Mc] at hx
   split at af
   ·rename_i d hd
    try simp only[Mc,hd]
    have:=dp hx
    generalize s7:ρ x=vx at this
    cases this with
    | bn vs _ q1 q2=>
     have aN:i < vs.size:=by rw[q1];exact(List.getElem?_eq_some_iff.1 hd).1
     have hv:vs[i]?=some vs[i]:=Array.getElem?_eq_getElem aN
     exact cy.val aq rfl (u:=vs[i]) (by unfold execOp;simp[ho,s7,Instr.extract,aN]) (.d _ _ (q2 i _ _ hv hd))
   exact af.elim
  ·rename_i ts Mc
   rw[Mc] at hx
   split at af
   ·rename_i d hd
    try simp only[Mc,hd]
    generalize s7:ρ x=vx at hx
    cases hx with
    | bn vs _ q1 q2=>
     have aN:i < vs.size:=by rw[q1];exact(List.getElem?_eq_some_iff.1 hd).1
     have hv:vs[i]?=some vs[i]:=Array.getElem?_eq_getElem aN
     exact cy.val aq rfl (u:=vs[i]) (by unfold execOp;simp[ho,s7,Instr.extract,aN]) (q2 i _ _ hv hd)
   exact af.elim
  exact af.elim
 ·
  rename_i c ho
  split at af
  ·rename_i f ep
   try simp only[ep]
   split at af
   ·rename_i g hf
    try simp only[hf]
    exact afg hV aq hc hr (by simp[kN,ho,ep,hf]) af
   ·rename_i g ds hf
    try simp only[hf]
    exact afg hV aq hc hr (by simp[kN,ho,ep,hf]) af
   exact af.elim
  ·rename_i ep
   try simp only[ep]
   split at af
   ·rename_i x t ha ht
    try simp only[ha,ht]
    have hx:=hr x (by simp[ho,Op.operands,Call.operands,ep];rw[←Array.mem_toList_iff,ha];simp)
    obtain⟨h1,u,h2,h3⟩:=auY (ty:=o.type) hV.E aq hc hx af
    refine cy.val aq h1 (CA ep ho (fun k=>rfl) ?_) h3
    have e1:c.args.map ρ = #[ρ x]:=by apply Array.toList_inj.1;simp[ha]
    have e2:c.argTypes = #[t]:=by apply Array.toList_inj.1;simp[ht]
    rw[e1,e2];exact h2
   exact af.elim
  ·rename_i ep
   try simp only[ep]
   split at af
   ·rename_i s x t t' ha ht
    try simp only[ha,ht]
    split at af
    ·rename_i htt
     subst htt
     simp only[if_true]
     have hs:=hr s (by simp[ho,Op.operands,Call.operands,ep];rw[←Array.mem_toList_iff,ha];simp)
     have hx:=hr x (by simp[ho,Op.operands,Call.operands,ep];rw[←Array.mem_toList_iff,ha];simp)
     have e1:c.args.map ρ = #[ρ s,ρ x]:=by apply Array.toList_inj.1;simp[ha]
     have e2:c.argTypes = #[t,t]:=by apply Array.toList_inj.1;simp[ht]
     have dI:∃ l',(fU V.E t l nid (ρT s) (ρT x)).bI = .bG l':=by
      generalize ρT s=ts at *;generalize ρT x=tx at *
      unfold fU at af ⊢
      repeat' split at af
      all_goals first | exact af.elim | skip
      all_goals simp only[*]
      all_goals exact⟨_,rfl⟩
     obtain⟨l',iK⟩:=dI
     unfold cy
     rw[iK]
     rintro rfl hn
     obtain⟨uc,v',w',J,m',h1,h2,h3,h4,h5⟩:=anf (nid:=nid) (ty:=o.type) (t:=t) hV.E aq hs hx hn af
     rw[iK] at h1;injection h1 with h1;subst h1
     have hex:(execOp ρ o).run P w = .ok (.value v') w':=CA ep ho (fun k=>rfl) (by rw[e1,e2];exact h2)
     simp only[hex,cz]
     exact⟨J,m',h3,h4,h5⟩
    exact af.elim
   exact af.elim
  ·rename_i ep
   try simp only[ep]
   split at af
   ·rename_i x t ha ht
    try simp only[ha,ht]
    have hx:=hr x (by simp[ho,Op.operands,Call.operands,ep];rw[←Array.mem_toList_iff,ha];simp)
    have e1:c.args.map ρ = #[ρ x]:=by apply Array.toList_inj.1;simp[ha]
    have e2:c.argTypes = #[t]:=by apply Array.toList_inj.1;simp[ht]
    have dI:=anJ af
    obtain⟨l',iK⟩:=dI
    unfold cy
    rw[iK]
    rintro rfl hn
    obtain⟨E4,uc,w',h1,h2,h3,h4⟩:=anK (ty:=o.type) hV.E aq hx af
    rw[iK] at h1;injection h1 with h1;subst h1
    have hex:(execOp ρ o).run P w = .ok (.value (.tuple #[])) w':=CA ep ho (fun k=>rfl) (by rw[e1,e2];exact h2)
    simp only[hex,cz]
    exact⟨I,m,h3,h4,by rw[E4];exact .d _ _ (.bn _ _ rfl (by simp))⟩
   exact af.elim
  ·rename_i ep
   try simp only[ep]
   split at af
   ·rename_i x k t t2 ha ht
    try simp only[ha,ht]
    have hx:=hr x (by simp[ho,Op.operands,Call.operands,ep];rw[←Array.mem_toList_iff,ha];simp)
    have hk:=hr k (by simp[ho,Op.operands,Call.operands,ep];rw[←Array.mem_toList_iff,ha];simp)
    have e1:c.args.map ρ = #[ρ x,ρ k]:=by apply Array.toList_inj.1;simp[ha]
    have e2:c.argTypes = #[t,t2]:=by apply Array.toList_inj.1;simp[ht]
    have dI:∃ l',(gT V.E t l (ρT x) (ρT k)).bI = .bG l':=by
     generalize ρT x=ts at *;generalize ρT k=tx at *
     unfold gT at af ⊢
     repeat' split at af
     all_goals first | exact af.elim | skip
     all_goals simp only[*]
     all_goals exact⟨_,rfl⟩
    obtain⟨l',iK⟩:=dI
    unfold cy
    rw[iK]
    rintro rfl hn
    obtain⟨E4,uc,w',h1,h2,h3,h4⟩:=an7 (t2:=t2) (ty:=o.type) hV.E aq hx hk af
    rw[iK] at h1;injection h1 with h1;subst h1
    have hex:(execOp ρ o).run P w = .ok (.value (.tuple #[])) w':=CA ep ho (fun k=>rfl) (by rw[e1,e2];exact h2)
    simp only[hex,cz]
    exact⟨I,m,h3,h4,by rw[E4];exact .d _ _ (.bn _ _ rfl (by simp))⟩
   exact af.elim
  ·rename_i ep
   try simp only[ep]
   split at af
   ·rename_i k a k' b cA
    split at af
    ·rename_i hk
     subst hk
     simp only[if_true]
     have dV:∃ x y,c.args.toList=[x,y]∧ρT x = .d (.int k a)∧ρT y = .d (.int k b):=by
      match hl:c.args.toList,cA with
      | [x,y],cA=>simp at cA;exact⟨x,y,rfl,cA.1,cA.2⟩
      | [],cA=>simp at cA
      | [x],cA=>simp at cA
      | x::y::z::r,cA=>simp at cA
     obtain⟨x,y,hl,h1,h2⟩:=dV
     have hx:=hr x (by simp[ho,Op.operands,Call.operands,ep];rw[←Array.mem_toList_iff,hl];simp)
     have hy:=hr y (by simp[ho,Op.operands,Call.operands,ep];rw[←Array.mem_toList_iff,hl];simp)
     rw[h1] at hx;rw[h2] at hy
     have hx:=dp hx;have hy:=dp hy
     generalize s7:ρ x=vx at hx;generalize H0:ρ y=vy at hy
     cases hx;cases hy
     have e1:c.args.map ρ = #[.int k a,.int k b]:=by apply Array.toList_inj.1;simp[hl,s7,H0]
     refine cy.val aq rfl (u:= .int k (max a b)) (CA ep ho (fun k=>rfl) ?_) (.d _ _ (.int _ _))
     rw[e1]
     simp only[Builtin.max_,List.foldlM_cons,List.foldlM_nil,Builtin.max2,Sem.run_bind,Sem.run_pure,Result.andThen_ok]
     congr 2
     rw[Int.max_def];split<;>split<;>omega
    exact af.elim
   exact af.elim
  ·rename_i ep
   try simp only[ep]
   split at af
   ·rename_i k a k' b cA
    split at af
    ·rename_i hk
     subst hk
     simp only[if_true]
     have dV:∃ x y,c.args.toList=[x,y]∧ρT x = .d (.int k a)∧ρT y = .d (.int k b):=by
      match hl:c.args.toList,cA with
      | [x,y],cA=>simp at cA;exact⟨x,y,rfl,cA.1,cA.2⟩
      | [],cA=>simp at cA
      | [x],cA=>simp at cA
      | x::y::z::r,cA=>simp at cA
     obtain⟨x,y,hl,h1,h2⟩:=dV
     have hx:=hr x (by simp[ho,Op.operands,Call.operands,ep];rw[←Array.mem_toList_iff,hl];simp)
     have hy:=hr y (by simp[ho,Op.operands,Call.operands,ep];rw[←Array.mem_toList_iff,hl];simp)
     rw[h1] at hx;rw[h2] at hy
     have hx:=dp hx;have hy:=dp hy
     generalize s7:ρ x=vx at hx;generalize H0:ρ y=vy at hy
     cases hx;cases hy
     have e1:c.args.map ρ = #[.int k a,.int k b]:=by apply Array.toList_inj.1;simp[hl,s7,H0]
     refine cy.val aq rfl (u:= .int k (min a b)) (CA ep ho (fun k=>rfl) ?_) (.d _ _ (.int _ _))
     rw[e1]
     simp only[Builtin.min_,List.foldlM_cons,List.foldlM_nil,Builtin.min2,Sem.run_bind,Sem.run_pure,Result.andThen_ok]
     congr 2
     rw[Int.min_def];split<;>split<;>omega
    exact af.elim
   exact af.elim
  exact af.elim
 ·
  rename_i t ho
  exact fun h1 h2=>avc (L:=L) (h1▸aq) ho h1 h2
 ·
  rename_i t mm k x ho
  exact akk hV.E aq (.inl ho) hr af
 ·
  rename_i t mm k x ho
  exact akk hV.E aq (.inr ho) hr af
 ·
  rename_i t x k ok ho
  obtain⟨h1,u,h2,h3⟩:=au2 (ok:=ok) hV.E aq hc (hr x (by simp[ho,Op.operands])) (hr k (by simp[ho,Op.operands])) af
  exact cy.val aq h1 (by unfold execOp;simp[ho,h2]) h3
 ·
  rename_i t x i ho
  obtain⟨h1,u,h2,h3⟩:=atI (P:=P) (w:=w) hV.E (hr x (by simp[ho,Op.operands])) (hr i (by simp[ho,Op.operands])) af
  exact cy.val aq h1 (by unfold execOp;simp[ho,h2]) h3
 ·
  rename_i src t x ho
  obtain⟨h1,u,w',J,h2,h3,h4,h5⟩:=an3 hV.E aq (hr x (by simp[ho,Op.operands])) af
  unfold cy
  rw[h1]
  have hex:(execOp ρ o).run P w = .ok (.value u) w':=by unfold execOp;simp[ho,h2]
  simp only[hex,cz]
  exact⟨J,h3,h4,h5⟩
 ·
  rename_i g first caps ho
  split at af
  ·rename_i hf
   try simp only[if_pos hf]
   have Q4:first = #[]:=Array.isEmpty_iff.1 hf
   refine cy.val aq rfl (u:= .func (.func g) #[] (caps.map ρ)) (by unfold execOp;simp[ho,Q4,Instr.makeFunc]) (anN (.aR _ _ _ (by simp) fun i v t hv ht=>?_))
   rw[Array.getElem?_map] at hv
   rw[List.getElem?_map] at ht
   cases ha:caps[i]? with
   | none=>rw[ha] at hv;cases hv
   | some a=>
    rw[ha] at hv
    have AW:caps.toList[i]?=some a:=by simpa using ha
    rw[AW] at ht
    simp at hv ht;subst hv;subst ht
    exact hr a (by simp[ho,Op.operands,Q4];exact Array.mem_of_getElem? ha)
  exact af.elim
 ·
  rename_i t x ho
  exact azw hV.E aq ho (hr x (by simp[ho,Op.operands])) af
 ·
  rename_i x ho
  exact aor aq hc ho (hr x (by simp[ho,Op.operands])) af
 ·
  rename_i t a b ho
  obtain⟨l',iK⟩:=avd af
  unfold cy
  rw[iK]
  rintro rfl rfl
  obtain⟨uc,w',v,m',h1,h2,h3,h4,h5⟩:=ave (t:=t) hV.E aq (hr a (by simp[ho,Op.operands])) (hr b (by simp[ho,Op.operands])) af
  rw[iK] at h1;injection h1 with h1;subst h1
  have hex:(execOp ρ o).run P w = .ok (.value v) w':=by unfold execOp;simp[ho,h2]
  simp only[hex,cz]
  exact⟨I,m',h3,h4,h5⟩
 exact af.elim
theorem Hv {V:Env} {ρT:Operand→T} {l:List AO} {nid:Nat} {o:Oper} (af:(evalOp V ρT l nid o).ob):∀ c,o.op ≠ .defer c:=by
 intro c hc
 obtain⟨dst,op,ty,pos,JS,g⟩:=o
 simp only at hc
 subst hc
 simp only[evalOp,R.bad] at af
theorem anM {E:dh} {ρT:Operand→T} {o:Oper} {x:FuncId×List T} (h:kN E ρT o=some x):∀ c,o.op ≠ .defer c:=by
 intro c hc
 unfold kN at h
 rw[hc] at h;cases h
end
end Go.an
namespace Go.an
open Go Go.RowKit
variable [ck] [dx]
abbrev PC:=List (Nat×Bool×Bool)
def ku (zZ pc:PC):Bool:=zZ.all fun x=>pc.any fun y=>x.1 == y.1&&x.2.2 == y.2.2
def ji:PC→PC→Prop
 | [],_=>True
 | x::r,pc=>(match pc.find? (fun y=>x.1 == y.1&&x.2.2 == y.2.2) with | some y=>x.2.1=y.2.1 | none=>False)∧ji r pc
def strip (pc:PC) (t:T):T×Prop:=
 match t with
 | .cond zZ u=>if ku zZ pc=true then(u,ji zZ pc) else(t,True)
 | t=>(t,True)
theorem ahx:∀ {pc:PC},holds pc→∀ y∈pc,y.2.1=y.2.2
 | [],_,y,hy=>by cases hy
 | (_,c,b)::r,h,y,hy=>by
  rcases List.mem_cons.1 hy with rfl | hy
  ·exact h.1
  exact ahx h.2 y hy
theorem ami:∀ {zZ pc:PC},ji zZ pc→holds pc→holds zZ
 | [],_,_,_=>trivial
 | (j,c,b)::r,pc,h,hp=>by
  obtain⟨h1,h2⟩:=h
  refine⟨?_,ami h2 hp⟩
  split at h1
  ·rename_i y hy
   have h3:=List.find?_some hy
   simp only[Bool.and_eq_true,beq_iff_eq] at h3
   have:=ahx hp y (List.mem_of_find?_eq_some hy)
   simp only at h1
   rw[h1,this,←h3.2]
  exact h1.elim
theorem ahw:∀ {a b:PC},holds (a++b)↔holds a∧holds b
 | [],b=>by simp[holds]
 | (_,c,d)::r,b=>by simp only[List.cons_append,holds,ahw (a:=r),and_assoc]
def dU (ops:List Oper) (s:Tm):Option (Nat×Bool)→Option PC
 | none=>some []
 | some (j,b)=>match (ops[j]?).bind (·.dst) with
  | some d=>match get s d with
   | .d (.bool c)=>some [(j,c,b)]
   | .cond pc (.d (.bool c))=>some (pc++[(j,c,b)])
   | .cond [(0,true,false)] .undef=>some [(0,true,false)]
   | _=>none
  | none=>none
def gr:List Prop→Prop
 | []=>True
 | p::r=>p∧gr r
theorem Fz:∀ {l:List Prop},gr l→∀ p∈l,p
 | [],_,p,hp=>by cases hp
 | q::r,h,p,hp=>by
  rcases List.mem_cons.1 hp with rfl | hp
  ·exact h.1
  exact Fz h.2 p hp
def cR (n:Nat):Option Nat→Bool
 | none=>true
 | some d=>decide (d < n)
def after (s:St) (dst:Option Nat) (pc:PC) (r:R):Option St:=
 match pc,r.bI with
 | [],.none=>some ⟨bq s.t dst r.t,s.l⟩
 | [],.new a=>some ⟨bq s.t dst r.t,s.l++[a]⟩
 | [],.bG l'=>some ⟨bq s.t dst r.t,l'⟩
 | pc,.none=>some ⟨bq s.t dst (.cond pc r.t),s.l⟩
 | _,_=>none
def dz (V:Env) (pc:PC) (s:St) (o:Oper):R:=
 match pc with
 | []=>evalOp V (bd s.t) s.l s.l.length o
 | _::_=>
  let ρ:=fun x=>strip pc (bd s.t x)
  let r:=evalOp V (fun x=>(ρ x).1) s.l s.l.length o
  ⟨r.t,r.bI,r.ob∧gr (o.op.operands.toList.map fun x=>(ρ x).2)⟩
def stepT (pc:PC) (s:Tm) (x:Operand):T:=match pc with | []=>bd s x | _::_=>(strip pc (bd s x)).1
def gone:T:= .cond [(0,true,false)] .undef
theorem apk {I:aC} {m:Nat→Value} {l:List AO}:aw I m l Go.undef gone:= .cond _ _ _ (fun h=>by simp[holds] at h) (fun _=>rfl)
abbrev Way:=Option (List Nat)
def jB (sk:List Nat) (dst:Option Nat):Bool:=match dst with | some d=>sk.contains d | none=>false
def bu (V:Env) (n:Nat) (ops:List Oper) (md:Way):List Oper→St→(St→Prop)→Prop
 | [],s,K=>K s
 | o::r,s,K=>
  match dU ops s.t o.guard with
  | none=>False
  | some pc=>
   match md with
   | none=>
    (match dz V pc s o with
    | ⟨t,bI,ob⟩=>(holds pc→ob)∧cR n o.dst=true∧match after s o.dst pc ⟨t,bI,True⟩ with | some s'=>bu V n ops md r s' K | none=>False)
   | some sk=>
    if jB sk o.dst=true then(holds pc→False)∧cR n o.dst=true∧bu V n ops md r ⟨bq s.t o.dst gone,s.l⟩ K
    else holds pc∧(match dz V [] s o with
    | ⟨t,bI,ob⟩=>ob∧cR n o.dst=true∧match after s o.dst [] ⟨t,bI,True⟩ with | some s'=>bu V n ops md r s' K | none=>False)
theorem Qp {V:Env} {n:Nat} {ops:List Oper} {md:Way} {K K':St→Prop} (hk:∀ s,K s→K' s):∀ (r:List Oper) (s:St),bu V n ops md r s K→bu V n ops md r s K'
 | [],s,h=>hk s h
 | o::r,s,h=>by
  simp only[bu] at h ⊢
  split at h
  ·exact h
  cases md with
  | none=>
   obtain⟨h1,h2,h3⟩:=h
   refine⟨h1,h2,?_⟩
   split at h3
   ·exact Qp hk r _ h3
   exact h3
  | some sk=>
   simp only at h ⊢
   split at h
   ·rename_i E1
    rw[if_pos E1]
    exact⟨h.1,h.2.1,Qp hk r _ h.2.2⟩
   rename_i E1
   rw[if_neg E1]
   obtain⟨h0,h1,h2,h3⟩:=h
   refine⟨h0,h1,h2,?_⟩
   split at h3
   ·exact Qp hk r _ h3
   exact h3
def mark (D:Nat):Deferred:={ target:= .collected D,args:= #[] }
def iS (B:Nat) (I:aC) (ds:List Deferred):Prop:=∃ Ds:List Nat,ds=Ds.map mark∧Ds.Nodup∧(∀ D∈Ds,B≤D∧¬ dx.pR D∧I.df D)∧∀ b,dx.pR b→I.df b
theorem iS.Fu {B:Nat} {I J:aC} {ds:List Deferred} (h:iS B I ds) (hl:∀ b,I.df b→J.df b):iS B J ds:=by
 obtain⟨Ds,h1,h2,h3,h4⟩:=h
 exact⟨Ds,h1,h2,fun D hD=>⟨(h3 D hD).1,(h3 D hD).2.1,hl _ (h3 D hD).2.2⟩,fun b hb=>hl _ (h4 b hb)⟩
theorem iS.mono {B:Nat} {I J:aC} {ds:List Deferred} (h:iS B I ds) (hl:I.le J):iS B J ds:=h.Fu hl.df
theorem iS.nil {B:Nat} {I:aC} (h:∀ b,dx.pR b→I.df b):iS B I []:=⟨[],rfl,.nil,by simp,h⟩
theorem iS.abi {B:Nat} {I J:aC} {a:Act} {dst:Option Nat} {v:Value} (h:iS B I a.defers) (hl:∀ b,I.df b→J.df b):iS B J (a.put dst v).defers:=by
 have:(a.put dst v).defers=a.defers:=by cases dst<;>rfl
 rw[this];exact h.Fu hl
theorem iS.put {B:Nat} {I J:aC} {a:Act} {dst:Option Nat} {v:Value} (h:iS B I a.defers) (hl:I.le J):iS B J (a.put dst v).defers:=h.abi hl.df
theorem iS.cons {B:Nat} {I J:aC} {ds:List Deferred} {D:Nat} (h:iS B I ds) (hl:∀ b,I.df b→J.df b) (hB:B≤D) (hI:¬ I.df D) (hJ:J.df D):iS B J (mark D::ds):=by
 obtain⟨Ds,h1,h2,h3,h4⟩:=h
 refine⟨D::Ds,by rw[h1];rfl,List.nodup_cons.2 ⟨fun hm=>hI (h3 D hm).2.2,h2⟩,fun x hx=>?_,fun b hb=>hl _ (h4 b hb)⟩
 rcases List.mem_cons.1 hx with rfl | hx
 ·exact⟨hB,fun hk=>hI (h4 _ hk),hJ⟩
 exact⟨(h3 x hx).1,(h3 x hx).2.1,hl _ (h3 x hx).2.2⟩
structure Rel (w0:World) (I0:aC) (n:Nat) (s:St) (a:Act) (w:World):Prop where
 size:a.tmps.size=n
 rel:∃ I m,aI w0 I0 w I m s.l∧iS w0.heap.size I a.defers∧∀ k,aw I m s.l (a.tmps.getD k undef) (get s.t k)
section
variable {P:Program} {V:Env} {w0 w:World} {I0 I:aC} {m:Nat→Value} {l L:List AO} {n:Nat}
theorem Hs (v:Value):aw I m L v (iI v):=by
 unfold iI
 split
 ·exact .d _ _ (.bool _)
 ·exact .d _ _ (.int _ _)
 ·exact .d _ _ (.str _)
 ·exact .ao _
 ·exact .d _ _ .qA
 ·exact .d _ _ .Iy
 ·exact .d _ _ .wm
 ·exact .d _ _ .C6
 exact .undef _
theorem Hz {s:Tm} {a:Act} (hg:∀ g d,ck.uK g=some d→Rd I (.pointer (some ⟨g,0,none⟩)) (.box d)) (g:Nat):aw I m L (a.eval (.global g)) (bd s (.global g)):=by
 show aw I m L (.pointer (some ⟨g,0,none⟩)) (match ck.uK g with | some d=> .fy d.cells.length [d] 0 0 | none=> .undef)
 cases hd:ck.uK g with
 | none=>exact .undef _
 | some d=>
  have:=hg g d hd
  cases this with
  | box _ _ val h1 h2 h3=>
   have:=aw.fy (I:=I) (m:=m) (l:=L) g 0 d.cells.length [d] 0 0 val (by simp) (fun x hx=>by simp at hx;subst hx;exact⟨rfl,h1⟩) (fun j hj=>by rw[Nat.zero_add];exact h2 j (by simpa using hj)) (fun j x hx=>h3 j x (by simpa [flat] using hx))
   simpa using this
theorem Cz {s:Tm} {a:Act} (hg:∀ g d,ck.uK g=some d→Rd I (.pointer (some ⟨g,0,none⟩)) (.box d)) (h:∀ k,aw I m L (a.tmps.getD k undef) (get s k)) (x:Operand):aw I m L (a.eval x) (bd s x):=by
 cases x with
 | tmp t=>exact h t
 | const v=>exact Hs v
 | global g=>exact Hz hg g
 | func f=>exact .d _ _ (.fn f)
theorem Ju {pc:PC} {v:Value} {t:T} (h:aw I m L v t) (hp:holds pc) (af:(strip pc t).2):aw I m L v (strip pc t).1:=by
 unfold strip at af ⊢
 split at af
 ·rename_i zZ u
  split at af
  ·rename_i hs
   simp only[if_pos hs]
   exact Of h (ami af hp)
  rename_i hs
  simp only[if_neg hs]
  exact h
 exact h
theorem Wl (s:Tm) (d:Nat) (t:T) (k:Nat):get ((d,t)::s) k=if d=k then t else get s k:=rfl
theorem z6 {s:Tm} {a:Act} {dst:Option Nat} {v:Value} {t:T} (aS:a.tmps.size=n) (hd:cR n dst=true) (h:∀ k,aw I m L (a.tmps.getD k undef) (get s k)) (hv:aw I m L v t) :
  ∀ k,aw I m L ((a.put dst v).tmps.getD k undef) (get (bq s dst t) k):=by
 intro k
 cases dst with
 | none=>exact h k
 | some d=>
  simp only[cR,decide_eq_true_eq] at hd
  simp only[bq,Wl,Act.put]
  by_cases hk:d=k
  ·subst hk
   rw[if_pos rfl]
   have:(a.tmps.setIfInBounds d v).getD d undef=v:=by simp[Array.getD_eq_getD_getElem?,aS,hd]
   rw[this];exact hv
  rw[if_neg hk]
  have:(a.tmps.setIfInBounds d v).getD k undef=a.tmps.getD k undef:=by simp[Array.getD_eq_getD_getElem?,hk]
  rw[this];exact h k
theorem Jz {ops:List Oper} {s:Tm} {a:Act} {o:Oper} {pc:PC} (h:∀ j b d,o.guard=some (j,b)→(ops[j]?).bind (·.dst)=some d→aw I m L (a.tmps.getD d undef) (get s d)) (hg:dU ops s o.guard=some pc):Region.wanted o (yielded ops.toArray a.tmps)=true↔holds pc:=by
 cases tY:o.guard with
 | none=>rw[tY] at hg;simp[dU] at hg;subst hg;simp[Region.wanted,tY,holds]
 | some jb=>
  obtain⟨j,b⟩:=jb
  rw[tY] at hg
  simp only[dU] at hg
  split at hg
  ·rename_i d hd
   have hy:yielded ops.toArray a.tmps j=match a.tmps[d]? with | some (.bool c)=>some c | _=>none:=by
    unfold yielded
    have:((ops.toArray[j]?).bind (·.dst))=some d:=by simpa using hd
    rw[this];rfl
   have ahq:∀ v,a.tmps.getD d undef=v→v≠undef→a.tmps[d]?=some v:=by
    intro v hv ba
    rw[Array.getD_eq_getD_getElem?] at hv
    cases hx:a.tmps[d]? with
    | none=>rw[hx] at hv;exact absurd hv.symm ba
    | some u=>rw[hx] at hv;simp at hv;rw[hv]
   have hk:=h j b d tY hd
   simp only[Region.wanted,tY,hy,beq_iff_eq]
   split at hg
   ·rename_i c hc
    simp at hg;subst hg
    rw[hc] at hk
    have:=dp hk
    generalize hv:a.tmps.getD d undef=v at this
    cases this
    rw[ahq _ hv (by unfold undef;simp)]
    simp[holds]
   ·rename_i zZ c hc
    simp at hg;subst hg
    rw[hc] at hk
    generalize hv:a.tmps.getD d undef=v at hk
    cases hk with
    | cond _ _ _ h1 h2=>
     rw[ahw]
     by_cases hp:holds zZ
     ·have:=dp (h1 hp)
      cases this
      rw[ahq _ hv (by unfold undef;simp)]
      simp[holds,hp]
     have Yu:=h2 hp
     subst Yu
     constructor
     ·intro hh
      exfalso
      split at hh
      ·rename_i c' vT
       rw[Array.getD_eq_getD_getElem?,vT] at hv
       simp[undef] at hv
      cases hh
     rintro⟨h,_⟩;exact absurd h hp
   ·rename_i hc
    simp at hg;subst hg
    rw[hc] at hk
    generalize hv:a.tmps.getD d undef=v at hk
    cases hk with
    | cond _ _ _ h1 h2=>
     have Yu:=h2 (by simp[holds])
     subst Yu
     constructor
     ·intro hh
      exfalso
      split at hh
      ·rename_i c' vT
       rw[Array.getD_eq_getD_getElem?,vT] at hv
       simp[undef] at hv
      cases hh
     intro hh;simp[holds] at hh
   cases hg
  cases hg
theorem UQ {ops:List Oper} {s:Tm} {a:Act} {o:Oper} {pc:PC} (h:∀ k,aw I m L (a.tmps.getD k undef) (get s k)) (hg:dU ops s o.guard=some pc):Region.wanted o (yielded ops.toArray a.tmps)=true↔holds pc:=
 Jz (fun _ _ d _ _=>h d) hg
theorem aka (hV:bO P V) {ops:List Oper} {Q:Exit→Act→World→Prop} {o:Oper} {pc qc:PC} {s s':St} {a:Act} {w:World} (aq:Rel w0 I0 n s a w) (hg:dU ops s.t o.guard=some qc) (hq:holds qc↔holds pc) (af:holds pc→(dz V pc s o).ob) (eQ:cR n o.dst=true) {t:T} {bI:O6} (hR:(dz V pc s o).t=t∧(dz V pc s o).bI=bI) (cW:after s o.dst pc ⟨t,bI,True⟩=some s') {Kn:Act→World→Prop}
  (hK:∀ a' w',Rel w0 I0 n s' a' w'→Kn a' w') :
  if Region.wanted o (yielded ops.toArray a.tmps)=true then o.wpIn dB 0 P a w Kn Q else(∀ f,o.about P w a.eval=some f→dB.fn f)∧Kn (a.put o.dst undef) w:=by
  obtain⟨aS,I,m,hw,dZ,ht⟩:=aq
  obtain⟨rfl,rfl⟩:=hR
  have fX:=(UQ ht hg).trans hq
  by_cases hp:holds pc
  ·rw[if_pos (fX.2 hp)]
   have af:=af hp
   have vY:∀ x∈o.op.operands,aw I m s.l (a.eval x) (stepT pc s.t x):=fun x hx=>by
    cases pc with
    | nil=>exact Cz hw.sat.dS ht x
    | cons y pc=>exact Ju (Cz hw.sat.dS ht x) hp (Fz af.2 _ (List.mem_map.2 ⟨x,by simpa using hx,rfl⟩))
   have dt:(dz V pc s o).t=(evalOp V (stepT pc s.t) s.l s.l.length o).t∧(dz V pc s o).bI=(evalOp V (stepT pc s.t) s.l s.l.length o).bI∧((dz V pc s o).ob→(evalOp V (stepT pc s.t) s.l s.l.length o).ob):=by
    cases pc with
    | nil=>exact⟨rfl,rfl,id⟩
    | cons y pc=>exact⟨rfl,rfl,fun h=>h.1⟩
   obtain⟨uX,Ro,Rp⟩:=dt
   have qs:=Rp af
   clear af Rp
   have Rg:=qs
   clear qs
   rw[uX,Ro] at cW
   clear uX Ro
   have gj:=Hv Rg
   generalize hr:evalOp V (stepT pc s.t) s.l s.l.length o=res at *
   cases dI:res.bI with
   | none=>
    have hs:=AK (nid:=s.l.length) hV hw (jm.refl _) vY (by rw[hr];exact Rg)
    rw[hr] at hs
    unfold cy at hs
    rw[dI] at hs
    refine cz.wpIn gj (hs.mono fun v w' ⟨J,hle,dc,hv⟩=>?_)
    have E0:s'=⟨bq s.t o.dst (if pc=[] then res.t else .cond pc res.t),s.l⟩:=by
     unfold after at cW
     simp only[dI] at cW
     cases pc<;>simp at cW<;>simp[←cW]
    subst E0
    refine hK _ _ ⟨by cases o.dst<;>simp[Act.put,aS],J,m,dc,dZ.put hle.eR,z6 aS eQ (fun k=>(ht k).mono hle) ?_⟩
    split
    ·exact hv
    exact .cond _ _ _ (fun _=>hv) (fun hn=>absurd hp hn)
   | new x=>
    have eG:pc=[]:=by
     unfold after at cW;simp only[dI] at cW
     cases pc<;>simp at cW;rfl
    subst eG
    have E0:s'=⟨bq s.t o.dst res.t,s.l++[x]⟩:=by
     unfold after at cW;simp only[dI] at cW;simp at cW;exact cW.symm
    subst E0
    obtain⟨Bh,r9⟩:=hw.push
    have hs:=AK (nid:=s.l.length) hV Bh (L:=s.l++[.dead]) (fun id aB=>List.getElem?_append_left aB) (fun x hx=>(vY x hx).mono r9) (by rw[hr];exact Rg)
    rw[hr] at hs
    unfold cy at hs
    rw[dI] at hs
    refine cz.wpIn gj ((hs (by simp)).mono fun v w' ⟨m',hle,dc,hv⟩=>?_)
    have j9:(s.l++[AO.dead]).set s.l.length x=s.l++[x]:=by simp
    rw[j9] at hle dc hv
    exact hK _ _ ⟨by cases o.dst<;>simp[Act.put,aS],I,m',dc,dZ.put (.refl I),z6 aS eQ (fun k=>(ht k).mono (r9.trans hle)) hv⟩
   | bG l'=>
    have eG:pc=[]:=by
     unfold after at cW;simp only[dI] at cW
     cases pc<;>simp at cW;rfl
    subst eG
    have E0:s'=⟨bq s.t o.dst res.t,l'⟩:=by
     unfold after at cW;simp only[dI] at cW;simp at cW;exact cW.symm
    subst E0
    have hs:=AK (nid:=s.l.length) hV hw (jm.refl _) vY (by rw[hr];exact Rg)
    rw[hr] at hs
    unfold cy at hs
    rw[dI] at hs
    refine cz.wpIn gj ((hs rfl rfl).mono fun v w' ⟨J,m',hle,dc,hv⟩=>?_)
    exact hK _ _ ⟨by cases o.dst<;>simp[Act.put,aS],J,m',dc,dZ.put hle.eR,z6 aS eQ (fun k=>(ht k).mono hle) hv⟩
  rw[if_neg (fun hh=>hp (fX.1 hh))]
  have eG:pc≠[]:=by rintro rfl;exact hp trivial
  have dI:(dz V pc s o).bI = .none:=by
   unfold after at cW
   generalize (dz V pc s o).bI=e at *
   cases pc with
   | nil=>exact absurd rfl eG
   | cons x pc=>cases e<;>simp at cW<;>rfl
  have E0:s'=⟨bq s.t o.dst (.cond pc (dz V pc s o).t),s.l⟩:=by
   unfold after at cW
   simp only[dI] at cW
   cases pc with
   | nil=>exact absurd rfl eG
   | cons x pc=>simp at cW;exact cW.symm
  subst E0
  exact⟨fun f _=>Aw f,hK _ _ ⟨by cases o.dst<;>simp[Act.put,aS],I,m,hw,dZ.put (.refl I),z6 aS eQ ht (.cond _ _ _ (fun h=>absurd h hp) (fun _=>rfl))⟩⟩
theorem K0 (hV:bO P V) {ops:List Oper} {md:Way} {Q:Exit→Act→World→Prop} {K:St→Prop} {o:Oper} {r:List Oper} {s:St} {a:Act} {w:World} (aq:Rel w0 I0 n s a w) (h:bu V n ops md (o::r) s K) {Kn:Act→World→Prop}
  (hK:∀ s' a' w',bu V n ops md r s' K→Rel w0 I0 n s' a' w'→Kn a' w') :
  if Region.wanted o (yielded ops.toArray a.tmps)=true then o.wpIn dB 0 P a w Kn Q else(∀ f,o.about P w a.eval=some f→dB.fn f)∧Kn (a.put o.dst undef) w:=by
  simp only[bu] at h
  split at h
  ·exact h.elim
  rename_i qc hg
  cases md with
  | none=>
   simp only at h
   obtain⟨af,eQ,h⟩:=h
   split at h
   ·rename_i s' cW
    exact aka hV aq hg Iff.rfl af eQ ⟨rfl,rfl⟩ cW fun a' w' hr=>hK s' a' w' h hr
   exact h.elim
  | some sk=>
   simp only at h
   split at h
   ·obtain⟨ca,eQ,h⟩:=h
    obtain⟨aS,I,m,hw,dZ,ht⟩:=aq
    rw[if_neg (fun hh=>ca ((UQ ht hg).1 hh))]
    exact⟨fun f _=>Aw f,hK _ _ _ h ⟨by cases o.dst<;>simp[Act.put,aS],I,m,hw,dZ.put (.refl I),z6 aS eQ ht apk⟩⟩
   obtain⟨CY,af,eQ,h⟩:=h
   split at h
   ·rename_i s' cW
    exact aka hV aq hg (pc:=[]) ⟨fun _=>trivial,fun _=>CY⟩ (fun _=>af) eQ ⟨rfl,rfl⟩ cW fun a' w' hr=>hK s' a' w' h hr
   exact h.elim
theorem VS (hV:bO P V) {ops:List Oper} {md:Way} {Q:Exit→Act→World→Prop} {K:St→Prop} (hK:∀ s a w,K s→Rel w0 I0 n s a w→Q .normal a w):∀ (r:List Oper) (s:St) (a:Act) (w:World),Rel w0 I0 n s a w→bu V n ops md r s K→wpListIn dB 0 P ops.toArray Q r a w
 | [],s,a,w,aq,h=>hK s a w h aq
 | o::r,s,a,w,aq,h=>by
  unfold wpListIn
  exact K0 hV aq h fun s' a' w' h' oE=>VS hV hK r s' a' w' oE h'
end
end Go.an
