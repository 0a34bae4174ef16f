import Derived.Test.YtfhkmedbfiphbaaGreatDoorX1
import Derived.Maps.RangeRun
import Derived.Laws.IdiomStrings
import Derived.MapKept
import Derived.WideKeyRuns
import Derived.Laws.OwnMore
import Derived.RangeFuncRecord
import Derived.Deep.LoopGhost
import Derived.KernelRfl
set_option linter.all false
namespace Go.aj
open Go Go.RowKit
variable [bh]
section
variable {P:Program} {V:Env} {w0 w:World} {I0 I:aw} {m:Nat→Value} {l L:List AO} {nid:Nat} {o:Oper} {ρ:Operand→Value} {ρT:Operand→T}
theorem WC (base:Nat) (t ty e:TypeId) (i:TypeInfo) (size:Nat) (ht:P.underlying t=some (.slice e)) (hi:P.info? e=some i)
  (v:Value) (n:Nat) (xs:List Value) (dt:w.ownsRow base e size v n xs) (c:Nat):(Builtin.append_ #[t,t] ty #[v,.slice none 0 c]).run P w = .ok v w:=by
 rcases dt.2 with ⟨rfl,rfl⟩ | ⟨g,cap,cur,rfl,_,_,fC,_⟩
 ·simp[Builtin.append_,run_underlying ht,sizeOf,typeInfo,hi,Builtin.lenOf,Builtin.firstCells]
 simp[Builtin.append_,run_underlying ht,sizeOf,typeInfo,hi,Builtin.lenOf,Builtin.firstCells,fC,storeCells]
theorem WD (hE:cp P V.E) (du:dH w I) {t ty e:TypeId} {i:TI} (hu:P.underlying t=some (.slice e)) (hi:V.E e=some i) (bO:0 < i.size) {base:Nat} {v vx:Value} {n wx:Nat} {xs:List Value} {new:List D}
  (dt:w.ownsRow base e i.size v n xs) (hx:Rd I vx (.slice wx new)) (aK:wx=i.size∨new.isEmpty=true) (hb:(n+new.length)*i.bytes≤140737488355328) (jX:n+new.length≤9223372036854775807) (pJ:base≤w.heap.size) :
  ∃ v' w' news,(Builtin.append_ #[t,t] ty #[v,vx]).run P w = .ok v' w'∧w'.ownsRow base e i.size v' (n+new.length) (xs++news)∧w.grownBy w' v.ownBlock∧(v'.ownBlock=v.ownBlock∨v'.ownBlock=some w.heap.size) ∧
   (∀ d∈new,d.cells.length=i.size∧∀ x∈d.cells,x.one=true)∧(∀ (j:Nat) x y,news[j]?=some x→(flat new)[j]?=some y→Rd I x y):=by
 obtain⟨x,zv,k1,k2,k3,k4,k5,k6,k7,k8⟩:=ga (hE e i hi)
 have kV:zv.cells.size=i.size:=by have:=(se I _ _ k5).1;rw[Array.length_toList] at this;omega
 cases hx with
 | lh A c _ hc=>
  cases A with
  | none=>exact⟨v,w,[],WC base t ty e x i.size hu k1 v n xs dt c,by simpa using dt,World.grownBy.refl w _,.inl rfl,by simp,by simp⟩
  | some a=>
   obtain⟨v',w',h1,h2,h3,_,h5⟩:=run_append_own_at (P:=P) w base t ty e x zv i.size i.bytes hu k1 k4 k2 k3 kV bO v n xs dt a 0 c [] (by simp) (by simp) (by simp) (by unfold maxLen;simp at jX;omega) (by simpa using hb) pJ
   exact⟨v',w',[],h1,by simpa using h2,h3,h5,by simp,by simp⟩
 | slice b off n' c size els val q1 q2 q3 q4 q5 q6=>
  subst q1
  rcases aK with aK | aK
  ·subst aK
   have uW:∀ (j:Nat) u,((List.range (new.length*i.size)).map val)[j]?=some u→w.cell? ((⟨b,off,none⟩:Addr).add j)=some u:=by
    intro j u hu
    rw[List.getElem?_map] at hu
    by_cases hj:j < new.length*i.size
    ·rw[List.getElem?_range hj] at hu
     simp at hu
     rw[Addr.add_mid,du.cell _ _ _ (q5 j hj),hu]
    rw[List.getElem?_eq_none (by simp;omega)] at hu;cases hu
   have sR:∀ (j:Nat) x y,((List.range (new.length*i.size)).map val)[j]?=some x→(flat new)[j]?=some y→Rd I x y:=by
    intro j u y hu hy
    have hj:j < new.length*i.size:=by rw[←jm new (fun d hd=>(q4 d hd).1)];exact(List.getElem?_eq_some_iff.1 hy).1
    rw[List.getElem?_map,List.getElem?_range hj] at hu
    simp at hu;subst hu
    exact q6 j y hy
   have jr:∀ u∈(List.range (new.length*i.size)).map val,u.oneCell'=true:=by
    intro u hu
    obtain⟨j,hj,rfl⟩:=List.mem_iff_getElem.1 hu
    have il:j < (flat new).length:=by rw[jm new (fun d hd=>(q4 d hd).1)];simpa using hj
    have hy:(flat new)[j]?=some (flat new)[j]:=List.getElem?_eq_getElem il
    refine(sR j _ _ (List.getElem?_eq_getElem hj) hy).one ?_
    obtain⟨d,hd,JM⟩:=List.mem_flatMap.1 (List.getElem_mem il)
    exact(q4 d hd).2 _ JM
   obtain⟨v',w',h1,h2,h3,_,h5⟩:=run_append_own_at (P:=P) w base t ty e x zv i.size i.bytes hu k1 k4 k2 k3 kV bO v n xs dt ⟨b,off,none⟩ new.length c ((List.range (new.length*i.size)).map val) (by simp) uW jr (by unfold maxLen;omega) hb pJ
   exact⟨v',w',_,h1,h2,h3,h5,q4,sR⟩
  have:new=[]:=by simpa using aK
  subst this
  obtain⟨v',w',h1,h2,h3,_,h5⟩:=run_append_own_at (P:=P) w base t ty e x zv i.size i.bytes hu k1 k4 k2 k3 kV bO v n xs dt ⟨b,off,none⟩ 0 c [] (by simp) (by simp) (by simp) (by unfold maxLen;simp at jX;omega) (by simpa using hb) pJ
  exact⟨v',w',[],h1,by simpa using h2,h3,h5,by simp,by simp⟩
theorem Nd (base:Nat) (t ty e:TypeId) (i:TypeInfo) (z:Value) (size bytes:Nat) (ht:P.underlying t=some (.slice e)) (hi:P.info? e=some i) (hz:i.zero=some z)
  (jv:i.size=size) (sJ:i.bytes=bytes) (kV:z.cells.size=size) (aK:0 < size) (v:Value) (n:Nat) (xs:List Value) (dt:w.ownsRow base e size v n xs)
  (a:Addr) (m c:Nat) (news:List Value) (hl:news.length=m*size) (uW:∀ j u,news[j]?=some u→w.cell? (a.add j)=some u) (h1:∀ u∈news,u.oneCell'=true)
  (RP:n+m≤maxLen) (R5:(n+m)*bytes≤140737488355328) (pJ:base≤w.heap.size) :
  ∃ v' w',(Builtin.append_ #[t,t] ty #[v,.slice (some a) m c]).run P w = .ok v' w'∧w'.ownsRow base e size v' (n+m) (xs++news)∧w.grownBy w' v.ownBlock∧(v'.ownBlock=v.ownBlock∨(v'.ownBlock=some w.heap.size∧w.grownBy w' none)):=by
 obtain⟨v',w',r1,r2,r3,_,r5⟩:=run_append_own_at (P:=P) w base t ty e i z size bytes ht hi hz jv sJ kV aK v n xs dt a m c news hl uW h1 RP R5 pJ
 refine⟨v',w',r1,r2,r3,?_⟩
 rcases r5 with r5 | r5
 ·exact .inl r5
 subst jv;subst sJ
 rcases dt.2 with ⟨rfl,rfl⟩ | ⟨g,cap,cur,rfl,hbg,hg,fC,R8,aR,ajJ⟩
 ·exact .inr ⟨r5,r3⟩
 have ajH:n+m≤9223372036854775807:=by simp only[maxLen] at RP;omega
 by_cases SO:n+m≤cap
 ·have abm:n*i.size+news.length≤cur.size:=by rw[hl,aR,←Nat.add_mul];exact Nat.mul_le_mul_right _ SO
  have hr:=run_append_room (P:=P) w t ty e i ht hi g n cap cur hg a m c news hl uW h1 SO abm
  rw[r1] at hr
  injection hr with hr _
  subst hr
  exact .inl rfl
 have holds:∀ j u,xs[j]?=some u→w.cell? ((⟨g,0,none⟩:Addr).add j)=some u:=dt.cells (g:=g) rfl
 have hr:=run_append_grow (P:=P) w t ty e i z ht hi hz ⟨g,0,none⟩ n cap xs dt.1 holds a m c news hl uW (by omega) (by omega) (growslice_fits (by omega) R5)
 rw[r1] at hr
 injection hr with _ hr
 subst hr
 exact .inr ⟨r5,rfl,rfl,rfl,by simp,fun k hk h=>(World.grownBy_alloc w.drew _ none).block k hk h⟩
theorem ahD (hE:cp P V.E) (du:dH w I) {t ty e:TypeId} {i:TI} (hu:P.underlying t=some (.slice e)) (hi:V.E e=some i) (bO:0 < i.size) {base:Nat} {v vx:Value} {n wx:Nat} {xs:List Value} {new:List D}
  (dt:w.ownsRow base e i.size v n xs) (hx:Rd I vx (.slice wx new)) (aK:wx=i.size∨new.isEmpty=true) (hb:(n+new.length)*i.bytes≤140737488355328) (jX:n+new.length≤9223372036854775807) (pJ:base≤w.heap.size) :
  ∃ v' w' news,(Builtin.append_ #[t,t] ty #[v,vx]).run P w = .ok v' w'∧w'.ownsRow base e i.size v' (n+new.length) (xs++news)∧w.grownBy w' v.ownBlock∧(v'.ownBlock=v.ownBlock∨(v'.ownBlock=some w.heap.size∧w.grownBy w' none)) ∧
   (∀ d∈new,d.cells.length=i.size∧∀ x∈d.cells,x.one=true)∧(∀ (j:Nat) x y,news[j]?=some x→(flat new)[j]?=some y→Rd I x y):=by
 obtain⟨x,zv,k1,k2,k3,k4,k5,k6,k7,k8⟩:=ga (hE e i hi)
 have kV:zv.cells.size=i.size:=by have:=(se I _ _ k5).1;rw[Array.length_toList] at this;omega
 cases hx with
 | lh A c _ hc=>
  cases A with
  | none=>exact⟨v,w,[],WC base t ty e x i.size hu k1 v n xs dt c,by simpa using dt,World.grownBy.refl w _,.inl rfl,by simp,by simp⟩
  | some a=>
   obtain⟨v',w',h1,h2,h3,h5⟩:=Nd (P:=P) base t ty e x zv i.size i.bytes hu k1 k4 k2 k3 kV bO v n xs dt a 0 c [] (by simp) (by simp) (by simp) (by unfold maxLen;simp at jX;omega) (by simpa using hb) pJ
   exact⟨v',w',[],h1,by simpa using h2,h3,h5,by simp,by simp⟩
 | slice b off n' c size els val q1 q2 q3 q4 q5 q6=>
  subst q1
  rcases aK with aK | aK
  ·subst aK
   have uW:∀ (j:Nat) u,((List.range (new.length*i.size)).map val)[j]?=some u→w.cell? ((⟨b,off,none⟩:Addr).add j)=some u:=by
    intro j u hu
    rw[List.getElem?_map] at hu
    by_cases hj:j < new.length*i.size
    ·rw[List.getElem?_range hj] at hu
     simp at hu
     rw[Addr.add_mid,du.cell _ _ _ (q5 j hj),hu]
    rw[List.getElem?_eq_none (by simp;omega)] at hu;cases hu
   have sR:∀ (j:Nat) x y,((List.range (new.length*i.size)).map val)[j]?=some x→(flat new)[j]?=some y→Rd I x y:=by
    intro j u y hu hy
    have hj:j < new.length*i.size:=by rw[←jm new (fun d hd=>(q4 d hd).1)];exact(List.getElem?_eq_some_iff.1 hy).1
    rw[List.getElem?_map,List.getElem?_range hj] at hu
    simp at hu;subst hu
    exact q6 j y hy
   have jr:∀ u∈(List.range (new.length*i.size)).map val,u.oneCell'=true:=by
    intro u hu
    obtain⟨j,hj,rfl⟩:=List.mem_iff_getElem.1 hu
    have il:j < (flat new).length:=by rw[jm new (fun d hd=>(q4 d hd).1)];simpa using hj
    have hy:(flat new)[j]?=some (flat new)[j]:=List.getElem?_eq_getElem il
    refine(sR j _ _ (List.getElem?_eq_getElem hj) hy).one ?_
    obtain⟨d,hd,JM⟩:=List.mem_flatMap.1 (List.getElem_mem il)
    exact(q4 d hd).2 _ JM
   obtain⟨v',w',h1,h2,h3,h5⟩:=Nd (P:=P) base t ty e x zv i.size i.bytes hu k1 k4 k2 k3 kV bO v n xs dt ⟨b,off,none⟩ new.length c ((List.range (new.length*i.size)).map val) (by simp) uW jr (by unfold maxLen;omega) hb pJ
   exact⟨v',w',_,h1,h2,h3,h5,q4,sR⟩
  have:new=[]:=by simpa using aK
  subst this
  obtain⟨v',w',h1,h2,h3,h5⟩:=Nd (P:=P) base t ty e x zv i.size i.bytes hu k1 k4 k2 k3 kV bO v n xs dt ⟨b,off,none⟩ 0 c [] (by simp) (by simp) (by simp) (by unfold maxLen;simp at jX;omega) (by simpa using hb) pJ
  exact⟨v',w',[],h1,by simpa using h2,h3,h5,by simp,by simp⟩
theorem x9 {B:Nat} {e:TypeId} {size n:Nat} {v:Value} {xs:List Value} (h:w.ownsRow B e size v n xs):own v=v.ownBlock∧∃ A n c,v = .slice A n c:=by
 rcases h.2 with ⟨rfl,_⟩ | ⟨g,cap,cur,rfl,_⟩
 ·exact⟨rfl,_,_,_,rfl⟩
 exact⟨rfl,_,_,_,rfl⟩
theorem Yl (hE:cp P V.E) (ah:aF w0 I0 w I m l) {t ty:TypeId} {vs vx:Value} {s x:T} (hs:aq I m l vs s) (hx:aq I m l vx x) (hn:nid=l.length) (ae:(kE V.E t l nid s x).ob) :
  ∃ l' v' w' J m',(kE V.E t l nid s x).bn = .aP l'∧(Builtin.append_ #[t,t] ty #[vs,vx]).run P w = .ok v' w'∧Le I m l J m' l'∧aF w0 I0 w' J m' l'∧aq J m' l' v' (kE V.E t l nid s x).t:=by
 subst hn
 unfold kE at ae ⊢
 split at ae
 ·rename_i e sS
  split at ae
  ·rename_i i hi
   have hu:=mG hE sS
   split at ae
   ·rename_i sx new l1 hd
    obtain⟨J,gm,r1,rx,jW⟩:=wF ah hx hd
    split at ae
    ·rename_i fe
     rw[if_pos fe]
     split at ae
     ·
      rename_i ns
      cases hs
      obtain⟨v',w',news,h1,h2,h3,h4,h5,h6⟩:=WD (ty:=ty) hE r1.sat hu hi fe.2 (World.ownsRow_nil w w0.heap.size e i.size) rx (fe.1) (by simpa using ae.1) (by simpa using ae.2) r1.below.size
      obtain⟨o1,o2⟩:=x9 h2
      have lF:∀ b,own v'=some b→w0.heap.size≤b∧J.eZ b∧∀ k,alive l1 k=true→own (m k)≠some b:=by
       intro b hb
       have:b=w.heap.size:=by
        rw[o1] at hb
        rcases h4 with h4 | h4
        ·rw[h4] at hb;cases hb
        rw[h4] at hb;injection hb with hb;exact hb.symm
       subst this
       refine⟨r1.below.size,r1.sat.eZ (Nat.le_refl _),fun k hk he=>?_⟩
       obtain⟨a,ha,jo⟩:=bN.1 hk
       have:=((r1.obj k a ha).lt jo he).1;omega
      obtain⟨q1,q2,q3⟩:=r1.BX (v:=v') (lo:=l1) (e:=e) (size:=i.size) (els:=new) rfl (fun k a ha=> .inr ha) (fun _ _ _ h=>h) h3 (jG _ _ _ _ _ h1) (fun b hb=>by simp[Value.ownBlock] at hb) (fun b hb=>by simp[Value.ownBlock] at hb) lF (by simpa using h2) h5 (by simpa using h6) o2
      rw[jW] at q1 q2 q3
      exact⟨_,v',w',J,_,rfl,h1,gm.trans q1,q2,q3⟩
     ·
      rename_i id
      split at ae
      ·rename_i e' size els ho
       split at ae
       ·rename_i eU
        obtain⟨rfl,jv,_⟩:=eU
        subst jv
        rw[if_pos ⟨rfl,rfl,jW.symm⟩]
        have bl:=hs.mono gm
        obtain⟨A,n,c,Ep,hm⟩:∃ A n c,vs = .slice A n c∧m id=vs:=by
         cases bl with
         | row A n c _ p1 p2=>exact⟨A,n,c,rfl,p2 (by simp[isRow,ho,AO.isRow])⟩
        obtain⟨xs,k1,k2,k3,k4⟩:=r1.obj id _ ho
        rw[hm] at k1 k4
        obtain⟨v',w',news,h1,h2,h3,h4,h5,h6⟩:=WD (ty:=ty) hE r1.sat hu hi fe.2 k1 rx fe.1 ae.1 ae.2 r1.below.size
        obtain⟨o1,o2⟩:=x9 h2
        obtain⟨o3,_⟩:=x9 k1
        have jV:id < l1.length:=(List.getElem?_eq_some_iff.1 ho).1
        have fm:∀ (k:Nat) a,(l1.set id .dead)[k]?=some a→a = .dead∨l1[k]?=some a:=by
         intro k a ha
         rw[List.getElem?_set] at ha
         split at ha
         ·first
           | (injection ha with ha;exact .inl ha.symm)
           | (split at ha<;>first | (injection ha with ha;exact .inl ha.symm) | cases ha)
         exact .inr ha
        have cW:∀ k,alive (l1.set id .dead) k=true→k≠id∧alive l1 k=true:=by
         intro k hk
         obtain⟨a,ha,jo⟩:=bN.1 hk
         refine⟨?_,bN.2 ⟨a,(fm k a ha).resolve_left jo,jo⟩⟩
         rintro rfl
         rw[List.getElem?_set,if_pos rfl,if_pos jV] at ha
         injection ha with ha;exact jo ha.symm
        have hold:∀ b,own vs=some b→w0.heap.size≤b∧J.eZ b∧∀ k,alive (l1.set id .dead) k=true→own (m k)≠some b:=by
         intro b hb
         refine⟨((r1.obj id _ ho).lt (by simp) (by rw[hm];exact hb)).2,k4 b hb,fun k hk he=>?_⟩
         obtain⟨bc,gz⟩:=cW k hk
         exact r1.sep k id b bc gz (bN.2 ⟨_,ho,by simp⟩) he (by rw[hm];exact hb)
        have lF:∀ b,own v'=some b→w0.heap.size≤b∧J.eZ b∧∀ k,alive (l1.set id .dead) k=true→own (m k)≠some b:=by
         intro b hb
         rw[o1] at hb
         rcases h4 with h4 | h4
         ·rw[h4,←o3] at hb;exact hold b hb
         rw[h4] at hb;injection hb with hb;subst hb
         refine⟨r1.below.size,r1.sat.eZ (Nat.le_refl _),fun k hk he=>?_⟩
         obtain⟨a,ha,jo⟩:=bN.1 (cW k hk).2
         have:=((r1.obj k a ha).lt jo he).1;omega
        obtain⟨q1,q2,q3⟩:=r1.BX (v:=v') (lo:=l1.set id .dead) (e:=e') (size:=i.size) (els:=els++new) (xs:=xs++news) (by simp) fm
         (
          fun k a qT hk=>by
          rw[List.getElem?_set,if_neg ?_];exact hk
          rintro rfl;rw[ho] at hk;cases hk;cases qT)
         h3 (jG _ _ _ _ _ h1) (fun b hb=>hold b (by rw[o3];exact hb)) (fun b hb=>r1.sat.Fo k1 (by rw[o3];exact hb)) lF (by simpa using h2)
         (fun d hd=>by rcases List.mem_append.1 hd with h | h;exact k2 d h;exact h5 d h)
         (
          fun j u y c8 hy=>by
          rw[Jb,List.getElem?_append] at hy
          rw[List.getElem?_append] at c8
          have:xs.length=(flat els).length:=by rw[jm els (fun d hd=>(k2 d hd).1)];exact k1.1
          rw[this] at c8
          by_cases hj:j < (flat els).length
          ·rw[if_pos hj] at hy c8;exact k3 j u y c8 hy
          rw[if_neg hj] at hy c8;exact h6 _ u y c8 hy) o2
        rw[jW] at q1 q2 q3
        exact⟨_,v',w',J,_,rfl,h1,gm.trans q1,q2,q3⟩
       exact ae.elim
      exact ae.elim
     ·
      rename_i id xd
      split at ae
      ·rename_i e' size els ho
       split at ae
       ·rename_i eU
        obtain⟨rfl,jv,_⟩:=eU
        subst jv
        rw[if_pos ⟨rfl,rfl,jW.symm⟩]
        have bl:=hs.mono gm
        obtain⟨A,n,c,Ep,hm⟩:∃ A n c,vs = .slice A n c∧m id=vs:=by
         cases bl with
         | bD A n c _ _ p1 p2 _=>exact⟨A,n,c,rfl,p2 (by simp[isRow,ho,AO.isRow])⟩
        obtain⟨xs,k1,k2,k3,k4⟩:=r1.obj id _ ho
        rw[hm] at k1 k4
        obtain⟨v',w',news,h1,h2,h3,h4,h5,h6⟩:=ahD (ty:=ty) hE r1.sat hu hi fe.2 k1 rx fe.1 ae.1 ae.2 r1.below.size
        obtain⟨o1,A',n',c',bQ⟩:=x9 h2
        obtain⟨o3,_⟩:=x9 k1
        have jV:id < l1.length:=(List.getElem?_eq_some_iff.1 ho).1
        have fm:∀ (k:Nat) a,(l1.set id .dead)[k]?=some a→a = .dead∨l1[k]?=some a:=by
         intro k a ha
         rw[List.getElem?_set] at ha
         split at ha
         ·first
           | (injection ha with ha;exact .inl ha.symm)
           | (split at ha<;>first | (injection ha with ha;exact .inl ha.symm) | cases ha)
         exact .inr ha
        have cW:∀ k,alive (l1.set id .dead) k=true→k≠id∧alive l1 k=true:=by
         intro k hk
         obtain⟨a,ha,jo⟩:=bN.1 hk
         refine⟨?_,bN.2 ⟨a,(fm k a ha).resolve_left jo,jo⟩⟩
         rintro rfl
         rw[List.getElem?_set,if_pos rfl,if_pos jV] at ha
         injection ha with ha;exact jo ha.symm
        have hold:∀ b,own vs=some b→w0.heap.size≤b∧∀ k,alive (l1.set id .dead) k=true→own (m k)≠some b:=by
         intro b hb
         refine⟨((r1.obj id _ ho).lt (by simp) (by rw[hm];exact hb)).2,fun k hk he=>?_⟩
         obtain⟨bc,gz⟩:=cW k hk
         exact r1.sep k id b bc gz (bN.2 ⟨_,ho,by simp⟩) he (by rw[hm];exact hb)
        have lF:∀ b,own v'=some b→w0.heap.size≤b∧∀ k,alive (l1.set id .dead) k=true→own (m k)≠some b:=by
         intro b hb
         rw[o1] at hb
         rcases h4 with h4 | ⟨h4,_⟩
         ·rw[h4,←o3] at hb;exact hold b hb
         rw[h4] at hb;injection hb with hb;subst hb
         refine⟨r1.below.size,fun k hk he=>?_⟩
         obtain⟨a,ha,jo⟩:=bN.1 (cW k hk).2
         have:=((r1.obj k a ha).lt jo he).1;omega
        have abB:∀ b,own v'=some b→I.le J→(∀ (o:Nat) u,J.cell b o=some u→(xs++news)[o]?=some u)∧J.mp b=none∧∀ o,(xs++news).length≤o→J.cell b o=none:=by
         intro b hb _
         rw[o1] at hb
         rcases h4 with h4 | ⟨h4,_⟩
         ·rw[h4,←o3] at hb
          obtain⟨q1,q2,q3⟩:=k4 b hb
          refine⟨fun o u hc=>?_,q1,fun o bK=>q3 o (by rw[List.length_append] at bK;omega)⟩
          rcases Nat.lt_or_ge o xs.length with aN | sK
          ·have:=q2 o xs[o] (List.getElem?_eq_getElem aN)
           rw[hc] at this;injection this with this
           rw[List.getElem?_append_left aN,List.getElem?_eq_getElem aN,this]
          rw[q3 o sK] at hc;cases hc
         rw[h4] at hb;injection hb with hb;subst hb
         have hn:=r1.sat.eZ (Nat.le_refl _)
         exact⟨fun o u hc=>(by rw[hn.1 o] at hc;cases hc),hn.2,fun o _=>hn.1 o⟩
        obtain⟨J2,DR,abh,xt,Jz⟩:∃ J2:aw,J.le J2∧(∀ b,J2.df b↔J.df b)∧(∀ b,own v'=some b→J2.mp b=none∧(∀ (o:Nat) u,(xs++news)[o]?=some u→J2.cell b o=some u)∧∀ o,(xs++news).length≤o→J2.cell b o=none)∧∀ b,own v'≠some b→J2.cell b=J.cell b∧J2.mp b=J.mp b:=by
         cases abN:own v' with
         | none=>exact⟨J,.refl J,fun _=>Iff.rfl,fun _ hb=>absurd hb (by simp),fun _ _=>⟨rfl,rfl⟩⟩
         | some b=>
          obtain⟨q1,q2,q3⟩:=abB b abN gm.eF
          refine⟨J.ez b (xs++news),⟨fun b' o u hc=>?_,fun _ _ h=>h,fun _ h=>h⟩,fun _=>Iff.rfl,fun b' bI=>?_,fun b' bI=>⟨?_,rfl⟩⟩
          ·by_cases R4:b'=b
           ·subst R4;simp only[aw.ez,if_true];rw[q1 o u hc]
           simp only[aw.ez,if_neg R4];exact hc
          ·injection bI with bI;subst bI
           refine⟨q2,fun o u hu=>?_,fun o bK=>?_⟩
           ·simp only[aw.ez,if_true];rw[hu]
           simp only[aw.ez,if_true];rw[List.getElem?_eq_none bK];exact q3 o bK
          funext o
          simp only[aw.ez]
          rw[if_neg (fun e=>bI (by rw[e]))]
        have ab0:dH w' J2:=by
         have abd:∀ b,own v'=some b→∀ (o:Nat) u,(xs++news)[o]?=some u→w'.cell? ⟨b,o,none⟩=some u:=by
          intro b hb o u hu
          have:=h2.cells (g:=b) (by rw[←o1];exact hb) o u hu
          rwa [Addr.add_lit,Nat.zero_add] at this
         have KB:∀ b,(∃ o u,J.cell b o=some u)∨(∃ es,J.mp b=some es)∨J.df b→own v'≠some b→w'.heap[b]?=w.heap[b]?:=by
          intro b hb bc
          have aN:b < w.heap.size:=by
           rcases hb with ⟨o,u,hc⟩ | ⟨es,hc⟩ | hc
           ·exact r1.sat.lt hc
           ·exact r1.sat.qb hc
           exact r1.sat.mr hc
          rcases h4 with h4 | ⟨_,h4⟩
          ·exact h3.block b aN (fun he=>bc (by rw[o1,h4];exact he.symm))
          exact h4.block b aN (by simp)
         refine⟨fun b o u hc=>?_,fun b es hc=>?_,fun b hd=>?_,fun g d hg=>(r1.sat.dA g d hg).mono DR⟩
         ·by_cases hb:own v'=some b
          ·obtain⟨_,q2,q3⟩:=xt b hb
           rcases Nat.lt_or_ge o (xs++news).length with aN | sK
           ·have:=q2 o _ (List.getElem?_eq_getElem aN)
            rw[hc] at this;injection this with this
            exact abd b hb o u (by rw[List.getElem?_eq_getElem aN,this])
           rw[q3 o sK] at hc;cases hc
          rw[(Jz b hb).1] at hc
          exact(World.cell?_of_block (w:=w) (a:=⟨b,o,none⟩) (KB b (.inl ⟨o,u,hc⟩) hb)).trans (r1.sat.cell b o u hc)
         ·by_cases hb:own v'=some b
          ·rw[(xt b hb).1] at hc;cases hc
          rw[(Jz b hb).2] at hc
          exact gd.to (KB b (.inr (.inl ⟨es,hc⟩)) hb) (r1.sat.mp b es hc)
         have aS:J.df b:=by
          have:J2.df b→J.df b:=fun h=>(abh b).1 h
          exact this hd
         by_cases hb:own v'=some b
         ·exfalso
          rw[o1] at hb
          rcases h4 with h4 | ⟨h4,_⟩
          ·rw[h4,←o3] at hb;exact r1.sat.Fo k1 hb aS
          rw[h4] at hb;injection hb with hb;have:=r1.sat.mr aS;omega
         exact(KB b (.inr (.inr aS)) hb).trans (r1.sat.df b aS)
        have Sf:∀ d∈els++new,d.cells.length=i.size∧∀ x∈d.cells,x.one=true:=fun d hd=>by rcases List.mem_append.1 hd with h | h;exact k2 d h;exact h5 d h
        have Eg:∀ (j:Nat) u y,(xs++news)[j]?=some u→(flat (els++new))[j]?=some y→Rd J2 u y:=by
         intro j u y c8 hy
         rw[Jb,List.getElem?_append] at hy
         rw[List.getElem?_append] at c8
         have:xs.length=(flat els).length:=by rw[jm els (fun d hd=>(k2 d hd).1)];exact k1.1
         rw[this] at c8
         by_cases hj:j < (flat els).length
         ·rw[if_pos hj] at hy c8;exact(k3 j u y c8 hy).mono DR
         rw[if_neg hj] at hy c8;exact(h6 _ u y c8 hy).mono DR
        obtain⟨q1,q2,q3⟩:=r1.agk (v:=v') (row:=vs.ownBlock) (lo:=l1.set id .dead) (e:=e') (size:=i.size) (els:=els++new) (J:=J2) (by simp) fm
         (
          fun k a qT hk=>by
          rw[List.getElem?_set,if_neg ?_];exact hk
          rintro rfl;rw[ho] at hk;cases hk;cases qT)
         h3 (jG _ _ _ _ _ h1) (fun b hb=>hold b (by rw[o3];exact hb)) DR Jz ab0 lF
         ⟨xs++news,by simpa using h2,Sf,Eg,fun b hb=>⟨(xt b hb).1,(xt b hb).2.1,(xt b hb).2.2⟩⟩ ⟨A',n',c',bQ⟩
        rw[jW] at q1 q2 q3
        refine⟨_,v',w',J2,_,rfl,h1,gm.trans q1,q2,?_⟩
        have ch:Rd J2 v' (.slice i.size (els++new)):=yB (by simpa using h2) Sf Eg fun b hb=>(xt b hb).2.1
        cases q3 with
        | row A n c _ z1 z2=>exact .bD A n c _ _ z1 z2 ch
       exact ae.elim
      exact ae.elim
     exact ae.elim
    exact ae.elim
   exact ae.elim
  exact ae.elim
 exact ae.elim
theorem Hp {E:cA} {t:TypeId} {v:Value} {x:T} (h:aq I m L v x):aq I m L v (typed E t x):=by
 unfold typed
 split
 ·cases h;exact .bC _
 exact h
theorem Hn {E:cA}:∀ (ts:List TypeId) (vs:List Value) (xs:List T),(∀ (i:Nat) v x,vs[i]?=some v→xs[i]?=some x→aq I m L v x)→(iA E ts xs).length=xs.length∧∀ (i:Nat) v x,vs[i]?=some v→(iA E ts xs)[i]?=some x→aq I m L v x
 | [],vs,xs,h=>by simp[iA];exact h
 | t::ts,vs,[],h=>by simp[iA]
 | t::ts,vs,x::xs,h=>by
  match vs with
  | []=>simp[iA];exact(Hn (E:=E) ts [] xs (by simp)).1
  | v::vs=>
   obtain⟨h1,h2⟩:=Hn (E:=E) ts vs xs (fun i v x hv hx=>h (i+1) v x (by simpa using hv) (by simpa using hx))
   simp only[iA]
   refine⟨by simp[h1],fun i u y hu hy=>?_⟩
   rcases i with _ | i
   ·simp at hu hy;subst hu;subst hy;exact Hp (h 0 v x rfl rfl)
   simp at hu hy;exact h2 i u y hu hy
def eO (E:cA) (ρ:Operand→T) (o:Oper):Option (FuncId×List T):=match o.op with
 | .call c=>(match c.callee with
  | .value f=>(match ρ f with
   | .aL g ts=>some (g,iA E c.argTypes.toList (c.args.toList.map ρ)++ts)
   | .d (.fn g)=>some (g,iA E c.argTypes.toList (c.args.toList.map ρ))
   | .d (.aL g ds)=>some (g,iA E c.argTypes.toList (c.args.toList.map ρ)++ds.map .d)
   | _=>none)
  | _=>none)
 | _=>none
theorem Zt {E:cA} {ρ ρ':Operand→T} {o:Oper} (h:∀ x∈o.op.operands,ρ x=ρ' x):eO E ρ o=eO E ρ' o:=by
 unfold eO
 split
 ·rename_i c ho
  split
  ·rename_i f hf
   have h1:=h f (by simp[ho,Op.operands,Call.operands,hf])
   have h2:c.args.toList.map ρ=c.args.toList.map ρ':=List.map_congr_left fun x hx=>h x (by simp[ho,Op.operands,Call.operands];right;simpa using hx)
   rw[h1,h2]
  rfl
 rfl
theorem su {E:cA} {g:FuncId} {ts:List T} (hZ:Enters P g) (hr:∀ x∈o.op.operands,aq I m L (ρ x) (ρT x)) (h:eO E ρT o=some (g,ts)) :
  ∃ args:Array Value,(execOp ρ o).run P w = .ok (.enter g args) w∧args.size=ts.length∧∀ (i:Nat) v x,args[i]?=some v→ts[i]?=some x→aq I m L v x:=by
 unfold eO at h
 split at h
 ·rename_i c ho
  split at h
  ·rename_i f cN
   have hf:=hr f (by simp[ho,Op.operands,Call.operands,cN])
   have c9:∀ (i:Nat) v x,(c.args.toList.map ρ)[i]?=some v→(c.args.toList.map ρT)[i]?=some x→aq I m L v x:=by
    intro i v x hv hx
    rw[List.getElem?_map] at hv hx
    cases ha:c.args.toList[i]? with
    | none=>simp[ha] at hv
    | some a=>
     simp[ha] at hv hx
     subst hv;subst hx
     refine hr a ?_
     simp only[ho,Op.operands,Call.operands,cN]
     have:=List.mem_of_getElem? ha
     simp at this ⊢
     exact .inr this
   obtain⟨kS,sH⟩:=Hn (E:=E) c.argTypes.toList _ _ c9
   generalize kT:ρ f=vf at hf
   split at h
   ·rename_i g' cs hT
    rw[hT] at hf
    injection h with h;injection h with h1 h2;subst h1
    cases hf with
    | aL _ vs _ q1 q2=>
     refine⟨c.args.map ρ++vs,?_,?_,fun i v x hv hx=>?_⟩
     ·unfold execOp
      simp only[ho,resolve,cN,kT,Deferred.ofValue,Sem.run_bind,Sem.run_pure,Result.andThen_ok,invoke]
      simpa using hZ (c.args.map ρ++vs) w
     ·rw[←h2];simp[kS,q1]
     rw[←h2] at hx
     by_cases hi:i < (c.args.map ρ).size
     ·rw[Array.getElem?_append_left hi] at hv
      rw[List.getElem?_append_left (by rw[kS];simpa using hi)] at hx
      exact sH i v x (by simpa using hv) hx
     rw[Array.getElem?_append_right (by omega)] at hv
     rw[List.getElem?_append_right (by rw[kS];simpa using hi)] at hx
     rw[kS] at hx
     simp at hv hx hi
     exact q2 _ v x hv hx
   ·rename_i g' hT
    rw[hT] at hf
    injection h with h;injection h with h1 h2;subst h1
    have:=cy hf
    cases this
    refine⟨c.args.map ρ,?_,by rw[←h2,kS];simp,fun i v x hv hx=>sH i v x (by simpa using hv) (by rw[h2];exact hx)⟩
    unfold execOp
    simp only[ho,resolve,cN,kT,Deferred.ofValue,Sem.run_bind,Sem.run_pure,Result.andThen_ok,invoke]
    simpa using hZ (c.args.map ρ) w
   ·rename_i g' cs hT
    rw[hT] at hf
    injection h with h;injection h with h1 h2;subst h1
    have JQ:=cy hf
    cases JQ with
    | aL _ vs _ q1 q2=>
     refine⟨c.args.map ρ++vs,?_,?_,fun i v x hv hx=>?_⟩
     ·unfold execOp
      simp only[ho,resolve,cN,kT,Deferred.ofValue,Sem.run_bind,Sem.run_pure,Result.andThen_ok,invoke]
      simpa using hZ (c.args.map ρ++vs) w
     ·rw[←h2];simp[kS,q1]
     rw[←h2] at hx
     by_cases hi:i < (c.args.map ρ).size
     ·rw[Array.getElem?_append_left hi] at hv
      rw[List.getElem?_append_left (by rw[kS];simpa using hi)] at hx
      exact sH i v x (by simpa using hv) hx
     rw[Array.getElem?_append_right (by omega)] at hv
     rw[List.getElem?_append_right (by rw[kS];simpa using hi)] at hx
     rw[kS,List.getElem?_map] at hx
     simp only[List.length_map,Array.length_toList] at hx
     simp only[Array.size_map] at hv
     cases hd:cs[i - c.args.size]? with
     | none=>rw[hd] at hx;simp at hx
     | some d=>rw[hd] at hx;simp at hx;subst hx;exact .d _ _ (q2 _ v d hv hd)
   cases h
  cases h
 cases h
theorem ND {v:Value} {t:T} (h:aq I m L v t):aq I m L v (unbox t):=by
 unfold unbox
 split
 ·have:=cy h
  cases this with
  | box _ _ val h1 h2 h3=>
   rename_i d b
   have:=aq.bw (I:=I) (m:=m) (l:=L) b 0 d.cells.length [d] 0 0 val (by simp) (fun x hx=>by simp at hx;subst hx;exact⟨rfl,h1⟩) (fun j hj=>by rw[Nat.zero_add];exact h2 j (by simpa using hj)) (fun j x hx=>h3 j x (by simpa [flat] using hx))
   simpa using this
 exact h
theorem ZL {t:T} {d:D} (h:gJ t=some d):t = .d d:=by
 unfold gJ at h;split at h
 ·injection h with h;subst h;rfl
 cases h
theorem A2:∀ {ts:List T} {ds:List D},ts.mapM gJ=some ds→ts=ds.map .d
 | [],ds,h=>by simp at h;subst h;rfl
 | t::ts,ds,h=>by
  rw[List.mapM_cons] at h
  cases ht:gJ t with
  | none=>simp[ht] at h
  | some d=>
   cases gA:ts.mapM gJ with
   | none=>simp[ht,gA] at h
   | some ox=>
    simp[ht,gA] at h
    subst h
    rw[ZL ht,A2 gA];rfl
theorem Zu {v:Value} {g:FuncId} {ts:List T} (h:aq I m L v (.aL g ts)):aq I m L v (pz g ts):=by
 unfold pz
 split
 ·rename_i ds ff
  have:=A2 ff
  subst this
  cases h with
  | aL _ vs _ q1 q2=>
   exact .d _ _ (.aL _ _ _ (by simpa using q1) fun i v d hv hd=>cy (q2 i v (.d d) hv (by simp[hd])))
 exact h
theorem YY (hV:dI P V) (ah:aF w0 I0 w I m L) (hc:fw l L) {g:FuncId} {ts:List T} (hr:∀ x∈o.op.operands,aq I m L (ρ x) (ρT x)) (ee:eO V.E ρT o=some (g,ts))
  (ae:(zh V.C g l ts).ob):bW P w0 I0 o ρ w I m l L nid (zh V.C g l ts):=by
 unfold zh at ae ⊢
 split at ae
 ·rename_i ds l' hd
  split at ae
  ·rename_i x ob hC
   obtain⟨hZ,jU⟩:=hV.C g ds x ob hC ae
   obtain⟨args,bP,hlen,c9⟩:=su (P:=P) (w:=w) (ρ:=ρ) hZ hr ee
   have SA:args.toList.length=ts.length:=by simpa using hlen
   have sH:∀ (i:Nat) v x,args.toList[i]?=some v→ts[i]?=some x→aq I m L v x:=fun i v x hv hx=>c9 i v x (by simpa using hv) hx
   have main:∀ (L':List AO) (J:aw),Le I m L J m L'→aF w0 I0 w J m L'→args.toList.length=ds.length→(∀ (i:Nat) v d,args.toList[i]?=some v→ds[i]?=some d→Rd J v d) →
     Calls P g args w fun e qt=>∃ v,e = .returned v∧∃ J',Le I m L J' m L'∧aF w0 I0 qt J' m L'∧aq J' m L' v (.d x):=by
    intro L' J hle ju fB ch
    refine(jU w J args ju.sat (by simpa using fB) (fun i v d hv aS=>ch i v d (by simpa using hv) aS)).mono ?_
    rintro e qt ⟨v,J',he,hb,hx,hs,Ar⟩
    obtain⟨q1,q2⟩:=ju.call hb hx hs
    exact⟨v,he,J',hle.trans q2,q1,.d _ _ Ar⟩
   unfold bW
   by_cases hq:ts.all (rW l)=true
   ·simp only[if_pos hq,bP,cz]
    have hL:=Oo ts hc hq hd
    obtain⟨J,gm,r1,jW,ch,_⟩:=qF ts L I _ ds L ah SA sH hL
    exact(main L J gm r1 jW ch).mono fun e qt ⟨v,he,J',h⟩=>⟨v,he,J',h⟩
   simp only[if_neg hq,bP,cz]
   rintro rfl hn
   obtain⟨J,gm,r1,jW,ch,_⟩:=qF ts L I _ ds l' ah SA sH hd
   exact(main l' J gm r1 jW ch).mono fun e qt ⟨v,he,J',h1,h2,h3⟩=>⟨v,he,J',m,h1,h2,h3⟩
  exact ae.elim
 exact ae.elim
theorem Qm (hV:dI P V) (ah:aF w0 I0 w I m L) (hc:fw l L) {g:FuncId} {ts:List T} (hr:∀ x∈o.op.operands,aq I m L (ρ x) (ρT x)) (ee:eO V.E ρT o=some (g,ts))
  (ae:(xc V g l ts).ob):bW P w0 I0 o ρ w I m l L nid (xc V g l ts):=by
 unfold xc at ae ⊢
 split at ae
 ·rename_i t l' ob hF
  obtain⟨hZ,jU⟩:=hV.F g _ l _ hF ae
  obtain⟨args,bP,hlen,c9⟩:=su (P:=P) (w:=w) (ρ:=ρ) hZ hr ee
  unfold bW
  rintro rfl hn
  simp only[bP,cz]
  exact(jU w0 I0 w I m args ah hlen c9).mono fun e w' ⟨v,he,J,m',h1,h2,h3⟩=>⟨v,he,J,m',h1,h2,h3⟩
 exact YY hV ah hc hr ee ae
theorem W4 {I:aw} {v:Value} {s:Nat} {els:List D} (h:Rd I v (.slice s els)):∃ A c,v = .slice A els.length c:=by
 generalize hD:D.slice s els=dd at h
 cases h<;>first | (cases hD;done) | skip
 ·injection hD with _ hD;subst hD;exact⟨_,_,rfl⟩
 rename_i q1 _ _ _ _ _
 injection hD with _ hD;subst hD;exact⟨_,_,by rw[q1]⟩
theorem LR (ah:aF w0 I0 w I m L) (hc:fw l L) {v:Value} {t:T} {ks vs:List D} (hx:aq I m L v t) (hm:mapOf l t=some (ks,vs)) :
  ∃ es:Array MapEntry,es.size=ks.length∧es.size=vs.length∧(∀ (i:Nat) (e:MapEntry) (d:D),es[i]?=some e→ks[i]?=some d→Rd I e.key d)∧(∀ (i:Nat) (e:MapEntry) (d:D),es[i]?=some e→vs[i]?=some d→Rd I e.val d) ∧
   ((v = .map none∧es = #[])∨∃ b cR,v = .map (some b)∧w.heap[b]?=some (.map es cR)):=by
 unfold mapOf at hm
 split at hm
 ·injection hm with hm;injection hm with h1 h2;subst h1;subst h2
  have:=cy hx
  cases this with
  | tj=>exact⟨#[],rfl,rfl,by simp,by simp,.inl ⟨rfl,rfl⟩⟩
  | map b es _ _ q1 q2 q3 q4 q5=>
   have hh:=ah.sat.mp b es q1
   exact⟨es.1,q2,q3,q4,q5,.inr ⟨b,es.2,rfl,hh.1⟩⟩
 ·rename_i id
  split at hm
  ·rename_i ks' XT hl
   injection hm with hm;injection hm with h1 h2;subst h1;subst h2
   obtain⟨b,es,q1,q2,q3,q4,q5,q6,q7,q8⟩:=ah.obj id _ (hc.get hl)
   cases hx with
   | map r _ p1 p2=>
    have:=p2 (by unfold isRow;rw[hc.get hl];rfl)
    rw[q1] at this
    exact⟨es.1,q4,q5,q6,q7,.inr ⟨b,es.2,this.symm,q3.1⟩⟩
  ·rename_i ks' XT hl
   injection hm with hm;injection hm with h1 h2;subst h1;subst h2
   obtain⟨b,es,q1,q2,q3,q4,q5,q6,q7,q8⟩:=ah.obj id _ (hc.get hl)
   cases hx with
   | map r _ p1 p2=>
    have:=p2 (by unfold isRow;rw[hc.get hl];rfl)
    rw[q1] at this
    exact⟨es.1,q4,q5,q6,q7,.inr ⟨b,es.2,this.symm,q3.1⟩⟩
  cases hm
 cases hm
theorem aex (hE:cp P V.E) (ah:aF w0 I0 w I m L) (hc:fw l L) {v:Value} {x:T} {ty t:TypeId} (hx:aq I m L v x) (ae:(nd V.E t l x).ob) :
  (nd V.E t l x).bn = .none∧∃ u,(Builtin.len_ #[t] ty #[v]).run P w = .ok u w∧aq I m L u (nd V.E t l x).t:=by
 have fin:∀ (A:Option Addr) (n c:Nat) (e:TypeId),P.underlying t=some (.slice e)→(Builtin.len_ #[t] ty #[.slice A n c]).run P w = .ok (.int .i64 n) w:=by
  intro A n c e hu
  simp[Builtin.len_,run_underlying hu,goInt]
 unfold nd at ae ⊢
 split at ae
 ·rename_i hs
  have hu:=NG hE hs
  split at ae
  ·have:=cy hx;cases this
   exact⟨rfl,_,by simp[Builtin.len_,run_underlying hu,goInt],.d _ _ (.int _ _)⟩
  exact ae.elim
 ·rename_i e hs
  have hu:=mG hE hs
  split at ae
  ·rename_i s els
   obtain⟨A,c,rfl⟩:=W4 (cy hx)
   exact⟨rfl,_,fin _ _ _ _ hu,.d _ _ (.int _ _)⟩
  ·cases hx;exact⟨rfl,_,fin _ _ _ _ hu,.d _ _ (.int _ _)⟩
  ·rename_i id
   have go:∀ e size els,l[id]?=some (.row e size els)∨l[id]?=some (.bx e size els)→∃ A c,v = .slice A els.length c:=by
    intro e size els ho
    have bK:L[id]?=some (.row e size els)∨L[id]?=some (.bx e size els):=by rcases ho with ho | ho;exact .inl (hc.get ho);exact .inr (hc.get ho)
    cases hx with
    | row A n c _ p1 p2=>
     have hm:=p2 (by unfold isRow;rcases bK with h | h<;>simp[h,AO.isRow])
     have:∃ xs,w.ownsRow w0.heap.size e size (m id) els.length xs:=by
      rcases bK with h | h
      ·obtain⟨xs,k1,_⟩:=ah.obj id _ h;exact⟨xs,k1⟩
      obtain⟨xs,k1,_⟩:=ah.obj id _ h;exact⟨xs,k1⟩
     obtain⟨xs,k1⟩:=this
     rw[hm] at k1
     rcases k1.2 with ⟨q,q'⟩ | ⟨g,cap,cur,q,_⟩
     ·injection q with q1 q2 q3;rw[q',←q2];exact⟨_,_,rfl⟩
     injection q with q1 q2 q3;rw[←q2];exact⟨_,_,rfl⟩
   split at ae
   ·rename_i e size els ho
    obtain⟨A,c,rfl⟩:=go e size els (.inl ho)
    exact⟨rfl,_,fin _ _ _ _ hu,.d _ _ (.int _ _)⟩
   ·rename_i e size els ho
    obtain⟨A,c,rfl⟩:=go e size els (.inr ho)
    exact⟨rfl,_,fin _ _ _ _ hu,.d _ _ (.int _ _)⟩
   exact ae.elim
  exact ae.elim
 ·rename_i kt e hs
  have hu:P.underlying t=some (.map kt e):=by
   obtain⟨x,z',_,_,_,_,_,_,h7,_⟩:=ga (hE t _ hs)
   simp only[kL] at h7
   split at h7
   ·rename_i k' e' he;simp at h7;obtain⟨rfl,rfl⟩:=h7;exact he
   cases h7
  split at ae
  ·rename_i ks vs hm
   obtain⟨es,h1,_,_,_,h2⟩:=LR ah hc hx hm
   try simp only[hm]
   rcases h2 with ⟨rfl,rfl⟩ | ⟨b,cR,rfl,hh⟩
   ·refine⟨rfl,_,by simp[Builtin.len_,run_underlying hu,goInt];rfl,?_⟩
    have:ks.length=0:=by simpa using h1.symm
    rw[this];exact .d _ _ (.int _ _)
   refine⟨rfl,.int .i64 es.size,by simp[Builtin.len_,run_underlying hu,goInt,MapKept.run_getObj_map hh],?_⟩
   rw[h1];exact .d _ _ (.int _ _)
  exact ae.elim
 exact ae.elim
end
end Go.aj
namespace Go.aj
open Go Go.RowKit
variable [bh]
section
variable {P:Program} {V:Env} {w0 w w':World} {I0 I:aw} {m:Nat→Value} {l L:List AO} {nid:Nat} {o:Oper} {ρ:Operand→Value} {ρT:Operand→T}
theorem Le.setKind {id:Nat} {a a':AO} (h:l[id]?=some a) (hv:a'.isVar=a.isVar) (hr:a'.isRow=a.isRow)
  (lL:∀ e size els,a' = .row e size els∨a' = .bx e size els→∃ els',a = .row e size els'∨a = .bx e size els'):Le I m l I m (l.set id a'):=by
 refine⟨.refl I,by simp,fun k _ hk=>⟨(nV h hv.symm k).trans hk,rfl⟩,fun k _ hk=>⟨(nU h hr.symm k).symm.trans hk,rfl⟩,fun k e size els hk hh=>?_⟩
 by_cases dD:k=id
 ·subst dD
  rw[List.getElem?_set,if_pos rfl,if_pos (List.getElem?_eq_some_iff.1 h).1] at hh
  simp only[Option.some.injEq] at hh
  obtain⟨els',q⟩:=lL e size els hh
  exact⟨els',by rw[h];rcases q with rfl | rfl<;>simp⟩
 rw[List.getElem?_set,if_neg (Ne.symm dD)] at hh;exact⟨els,hh⟩
theorem aF.sb (ah:aF w0 I0 w I m l) {id b:Nat} {a a':AO} (ho:l[id]?=some a) (hd:a ≠ .dead) (dt:own (m id)=some b) (bS:I.eZ b) (hv:a'.isVar=a.isVar) (SQ:a'.isRow=a.isRow)
  (hle:Le I m l I m (l.set id a')) (hos:w'.os=w.os) (ab7:w'.tape=w.tape) (im:w'.output=w.output) (qV:w.drawn≤w'.drawn) (jv:w.heap.size≤w'.heap.size) (kR:∀ k,k≠b→w'.heap[k]?=w.heap[k]?)
  (cr:jM w0.heap.size w' I m (l.set id a') (m id) a'):aF w0 I0 w' I m (l.set id a'):=by
 have aN:=(ah.obj id a ho).lt hd dt
 have jV:id < l.length:=(List.getElem?_eq_some_iff.1 ho).1
 have cW:alive l id=true:=bN.2 ⟨_,ho,hd⟩
 refine⟨ah.below.trans ⟨hos,ab7,im,jv,fun k hk=>kR k (by omega),fun _=>qV⟩,⟨fun b' q u hc=>?_,fun b' es hc=>?_,fun b' dY=>(kR b' (fun e=>by subst e;exact(ah.obj id a ho).oS ah.sat hd dt dY)).trans (ah.sat.df b' dY),ah.sat.dA⟩,ah.ext,fun j q hj=>?_,fun i j b' cm hi hj cI cJ=>?_⟩
 ·have bc:b'≠b:=by rintro rfl;rw[bS.1] at hc;cases hc
  exact(World.cell?_of_block (w:=w) (a:=⟨b',q,none⟩) (kR b' bc)).trans (ah.sat.cell b' q u hc)
 ·have bc:b'≠b:=by rintro rfl;rw[bS.2] at hc;cases hc
  have hh:=ah.sat.mp b' es hc
  exact gd.to (kR b' bc) hh
 ·by_cases eQ:j=id
  ·subst eQ
   rw[List.getElem?_set,if_pos rfl,if_pos jV] at hj
   injection hj with hj;subst hj;exact cr
  rw[List.getElem?_set,if_neg (Ne.symm eQ)] at hj
  by_cases zX:q = .dead
  ·subst zX;trivial
  refine(ah.obj j q hj).iZ hle (fun b' bI=>kR b' ?_) (fun _ _=>⟨rfl,rfl⟩)
  rintro rfl
  exact ah.sep j id b' eQ (bN.2 ⟨q,hj,zX⟩) cW bI dt
 refine ah.sep i j b' cm ?_ ?_ cI cJ
 ·unfold alive at hi ⊢;rwa [nV ho hv.symm,nU ho SQ.symm] at hi
 unfold alive at hj ⊢;rwa [nV ho hv.symm,nU ho SQ.symm] at hj
theorem Dx {kk:IntKind} {n:Int}:∀ (es:List MapEntry) (ks:List D) (i:Nat),es.length=ks.length→(∀ (j:Nat) (e:MapEntry) (d:D),es[j]?=some e→ks[j]?=some d→Rd I e.key d)→td kk ks=true →
  (jw n ks i=none∧Instr.findNow (.int kk) (.int kk n) es i=some none∧∀ e∈es,e.key ≠ .int kk n)∨∃ j e,jw n ks i=some (i+j)∧es[j]?=some e∧e.key = .int kk n∧ks[j]?=some (.int kk n)∧Instr.findNow (.int kk) (.int kk n) es i=some (some (i+j,e.val))
 | [],[],i,_,_,_=> .inl ⟨rfl,rfl,by simp⟩
 | e::es,d::ks,i,hl,hr,hk=>by
  simp only[td,List.all_cons,Bool.and_eq_true] at hk
  obtain⟨J6,D2⟩:=hk
  have h0:=hr 0 e d rfl rfl
  split at J6
  ·rename_i k' a
   have gz:k'=kk:=by simpa using J6
   subst gz
   have iU:e.key = .int k' a:=by generalize e.key=z at h0;cases h0;rfl
   by_cases gN:n=a
   ·subst gN
    refine .inr ⟨0,e,by simp[jw],rfl,iU,rfl,?_⟩
    simp[Instr.findNow,Instr.sameNow,iU]
   rcases Dx (kk:=k') (n:=n) es ks (i+1) (by simpa using hl) (fun j e d h1 h2=>hr (j+1) e d (by simpa using h1) (by simpa using h2)) D2 with ⟨h1,h2,h6⟩ | ⟨j,e',h1,h2,h3,h4,h5⟩
   ·exact .inl ⟨by simp[jw,gN,h1],by simp only[Instr.findNow,Instr.sameNow,iU,if_true,beq_eq_false_iff_ne.2 gN,h2],fun x hx=>by
     rcases List.mem_cons.1 hx with rfl | hx
     ·rw[iU];intro he;injection he with _ he;exact gN he.symm
     exact h6 x hx⟩
   refine .inr ⟨j+1,e',by simp only[jw,if_neg gN,h1];congr 1;omega,by simpa using h2,h3,by simpa using h4,?_⟩
   simp only[Instr.findNow,Instr.sameNow,iU,if_true,beq_eq_false_iff_ne.2 gN,h5]
   congr 3;omega
  cases J6
theorem LS (hE:cp P V.E) {t:TypeId} {kk:IntKind} {i:TI} (h:vI V.E t=some (kk,i)):∃ kt e,P.underlying t=some (.map kt e)∧P.underlying kt=some (.int kk)∧V.E e=some i:=by
 unfold vI at h
 split at h
 ·rename_i kt e ht
  split at h
  ·rename_i jx i' h1 h2
   injection h with h;injection h with e1 e2;subst e1;subst e2
   obtain⟨x,z',_,_,_,_,_,_,h7,_⟩:=ga (hE t _ ht)
   obtain⟨x',z'',_,_,_,_,_,_,zK,_⟩:=ga (hE kt _ h1)
   refine⟨kt,e,?_,?_,h2⟩
   ·simp only[kL] at h7
    split at h7
    ·rename_i k' e' he;simp at h7;obtain⟨rfl,rfl⟩:=h7;exact he
    cases h7
   simp only[kL] at zK
   split at zK
   ·rename_i k' he;simp at zK;subst zK;exact he
   cases zK
  cases h
 cases h
theorem EC {t:T} {k:IntKind} {n:Int} {v:Value} (h:eg t=some (k,n)) (hr:aq I m L v t):v = .int k n:=by
 unfold eg at h
 split at h
 ·injection h with h;injection h with h1 h2;subst h1;subst h2
  have:=cy hr;cases this;rfl
 cases h
theorem QN {ds:List D} {j:Nat} {d:D} (h:ds[j]?=some d):fK ds j=d:=by simp[fK,h]
theorem X1 {z:Value} {i:TI} (h1:km z.cells.toList i.zero=true) (h2:oO z=i.desc.agg):Rd I z (fR i.desc.agg i.zero):=by
 obtain⟨q1,q2,q3⟩:=se I _ _ h1
 unfold fR
 cases z with
 | agg cs=>
  rw[←h2]
  simp only[oO,if_true]
  exact .agg _ _ (by simpa [Value.cells] using q1) q2 (fun i v d hv hd=>q3 i v d (by simpa [Value.cells] using hv) hd)
 | _=>
  rw[←h2]
  simp only[oO,Bool.false_eq_true,if_false]
  match hz:i.zero,q1 with
  | [d],_=>exact q3 0 _ d (by simp[Value.cells]) (by simp[hz])
  | [],q1=>simp[Value.cells] at q1
  | _::_::_,q1=>simp[Value.cells] at q1
theorem look_ok (hE:cp P V.E) (ah:aF w0 I0 w I m L) (hc:fw l L) {t:TypeId} {x k:Value} {tx tk:T} {ok:Bool} (hx:aq I m L x tx) (hk:aq I m L k tk) (ae:(xX V.E t l tx tk ok).ob) :
  (xX V.E t l tx tk ok).bn = .none∧∃ u,(Instr.lookup t x k ok).run P w = .ok u w∧aq I m L u (xX V.E t l tx tk ok).t:=by
 unfold xX at ae ⊢
 split at ae
 ·rename_i kk i ks vs jx n h1 h2 h3
  have:=EC h3 hk;subst this
  obtain⟨kt,e,u1,u2,u3⟩:=LS hE h1
  obtain⟨es,s1,s2,r1,r2,r3⟩:=LR ah hc hx h2
  obtain⟨z,z1,z2,z3,z4⟩:=G2 hE u3 w
  split at ae
  ·rename_i oE;subst oE
   simp only[if_true]
   have fk:∀ e:Bool,(Instr.checkKey e 10000 kt (.int kk n)).run P w = .ok () w:=fun e=>MapKept.run_checkKey (d:= .int kk) (n:=9999) u2 (by simp[MapKept.IsKey]) e
   have bP:∀ r,Instr.findNow (.int kk) (.int kk n) es.toList 0=some r→(Instr.lookup t x (.int kk n) ok).run P w = .ok (if ok then .tuple #[match r with | some (_,v)=>v | none=>z,.bool r.isSome] else match r with | some (_,v)=>v | none=>z) w:=by
    intro r hr
    have hf:=MapKept.run_findKey (w:=w) u2 hr
    unfold Instr.lookup
    rcases r3 with ⟨rfl,rfl⟩ | ⟨b,cR,rfl,hh⟩
    ·simp only[Sem.run_bind,run_underlying u1,Result.andThen_ok,Sem.run_pure,fk,hf]
     cases r<;>simp[z1]<;>split<;>simp
    simp only[Sem.run_bind,run_underlying u1,Result.andThen_ok,Sem.run_pure,MapKept.run_getObj_map hh,fk,hf]
    cases r<;>simp[z1]<;>split<;>simp
   rcases Dx (kk:=kk) (n:=n) es.toList ks 0 (by simpa using s1) (fun j e d q1 q2=>r1 j e d (by simpa using q1) q2) (by split at ae<;>exact ae) with ⟨q1,q2,_⟩ | ⟨j,e',q1,q2,q3,q4,q5⟩
   ·simp only[q1]
    refine⟨by trivial,_,bP _ q2,?_⟩
    have hz:=X1 (I:=I) z2 z3
    cases ok
    ·exact .d _ _ hz
    exact .d _ _ (.aI _ _ rfl fun i v d hv hd=>by
     rcases i with _ | _ | i
     ·simp at hv hd;subst hv;subst hd;exact hz
     ·simp at hv hd;subst hv;subst hd;exact .bool _
     simp at hv)
   simp only[q1,Nat.zero_add]
   refine⟨by trivial,_,bP _ q5,?_⟩
   have hj:j < vs.length:=by rw[←s2];have:=(List.getElem?_eq_some_iff.1 q2).1;simpa using this
   have hv:=r2 j e' _ (by simpa using q2) (List.getElem?_eq_getElem hj)
   rw[QN (List.getElem?_eq_getElem hj)]
   cases ok
   ·exact .d _ _ hv
   exact .d _ _ (.aI _ _ rfl fun i v d bQ hd=>by
    rcases i with _ | _ | i
    ·simp at bQ hd;subst bQ;subst hd;exact hv
    ·simp at bQ hd;subst bQ;subst hd;exact .bool _
    simp at bQ)
  exact ae.elim
 exact ae.elim
theorem stays (kk:IntKind) (n:Int) (w:World):(Instr.keyThatStays (.int kk n) (.int kk n)).run P w = .ok (.int kk n) w:=by
 unfold Instr.keyThatStays
 have:Instr.sameBits 10000 (.int kk n) (.int kk n)=true:=by simp[Instr.sameBits]
 rw[this];rfl
theorem agq (
        hE:cp P V.E) (ah:aF w0 I0 w I m l) {t:TypeId} {x k v:Value} {tx tk tv:T} (hx:aq I m l x tx) (hk:aq I m l k tk) (hv:aq I m l v tv) (ae:(qd V.E t l tx tk tv).ob) :
  ∃ l' w',(qd V.E t l tx tk tv).bn = .aP l'∧(Instr.mapUpdate t x k v).run P w = .ok () w'∧Le I m l I m l'∧aF w0 I0 w' I m l':=by
 unfold qd at ae ⊢
 split at ae
 ·rename_i kk i id jx n d h1 h3 h4
  have:=EC h3 hk;subst this
  have hd:=GQ hv h4
  obtain⟨kt,e,u1,u2,u3⟩:=LS hE h1
  split at ae
  ·rename_i oE;subst oE
   simp only[if_true]
   split at ae
   ·rename_i ks vs hl
    obtain⟨b,⟨es,cR⟩,q1,q2,q3,s1,s2,r1,r2,bS⟩:=ah.obj id _ hl
    replace q3:w.heap[b]?=some (.map es cR)∧MapKept.Stamped es cR:=q3
    simp only at s1 s2 r1 r2
    have rl:x = .map (some b):=by
     cases hx with
     | map r _ p1 p2=>
      have:=p2 (by unfold isRow;rw[hl];rfl)
      rw[q1] at this;exact this.symm
    subst rl
    have fk:∀ e:Bool,(Instr.checkKey e 10000 kt (.int kk n)).run P w = .ok () w:=fun e=>MapKept.run_checkKey (d:= .int kk) (n:=9999) u2 (by simp[MapKept.IsKey]) e
    have dt:own (m id)=some b:=by rw[q1];rfl
    rcases Dx (kk:=kk) (n:=n) es.toList ks 0 (by simpa using s1) (fun j e d q1 q2=>r1 j e d (by simpa using q1) q2) ae with ⟨p1,p2,p6⟩ | ⟨j,e',p1,p2,p3,p4,p5⟩
    ·simp only[p1]
     have hf:=MapKept.run_findKey (w:=w) u2 p2
     have fY:=MapKept.run_setObj_map (P:=P) (.map (es.push { key:= .int kk n,val:=v,born:=cR }) (cR+1)) q3.1
     obtain⟨g1,g2⟩:=MapKept.heap_set (o':= .map (es.push { key:= .int kk n,val:=v,born:=cR }) (cR+1)) q3.1
     refine⟨_,{ w with heap:=w.heap.setIfInBounds b (.map (es.push { key:= .int kk n,val:=v,born:=cR }) (cR+1)) },rfl,?_,?_,?_⟩
     ·unfold Instr.mapUpdate
      simp only[Sem.run_bind,run_underlying u1,Result.andThen_ok,MapKept.run_getObj_map q3.1,fk,hf,fY]
     ·exact Le.setKind hl rfl rfl (by simp)
     refine ah.sb hl (by simp) dt bS rfl rfl (Le.setKind hl rfl rfl (by simp)) rfl rfl rfl (Nat.le_refl _) (by simp) (fun k hk=>g2 k hk) ?_
     refine⟨b,(es.push { key:= .int kk n,val:=v,born:=cR },cR+1),q1,q2,⟨g1,MapKept.stamped_push q3.2 (by simpa using p6)⟩,by simp[s1],by simp[s2],fun i e d he aS=>?_,fun i e d' he aS=>?_,bS⟩
     ·rw[Array.getElem?_push] at he
      split at he
      ·injection he with he;subst he
       rename_i hi;subst hi
       rw[s1,List.getElem?_append_right (Nat.le_refl _)] at aS;simp at aS;subst aS;exact .int _ _
      have hi:i < ks.length:=by have:=(Array.getElem?_eq_some_iff.1 he).1;omega
      rw[List.getElem?_append_left hi] at aS;exact r1 i e d he aS
     rw[Array.getElem?_push] at he
     split at he
     ·injection he with he;subst he
      rename_i hi;subst hi
      rw[s2,List.getElem?_append_right (Nat.le_refl _)] at aS;simp at aS;subst aS;exact hd
     have hi:i < vs.length:=by have:=(Array.getElem?_eq_some_iff.1 he).1;omega
     rw[List.getElem?_append_left hi] at aS;exact r2 i e d' he aS
    simp only[p1,Nat.zero_add]
    rw[Nat.zero_add] at p5
    have hf:=MapKept.run_findKey (w:=w) u2 p5
    have mR:es[j]?=some e':=by simpa using p2
    have fY:=MapKept.run_setObj_map (P:=P) (.map (es.modify j fun e=>{ e with key:= .int kk n,val:=v }) cR) q3.1
    obtain⟨g1,g2⟩:=MapKept.heap_set (o':= .map (es.modify j fun e=>{ e with key:= .int kk n,val:=v }) cR) q3.1
    refine⟨_,{ w with heap:=w.heap.setIfInBounds b (.map (es.modify j fun e=>{ e with key:= .int kk n,val:=v }) cR) },rfl,?_,Le.setKind hl rfl rfl (by simp),?_⟩
    ·unfold Instr.mapUpdate
     simp only[Sem.run_bind,run_underlying u1,Result.andThen_ok,MapKept.run_getObj_map q3.1,fk,hf,mR,Option.map_some,Option.getD_some,p3,stays,fY]
    refine ah.sb hl (by simp) dt bS rfl rfl (Le.setKind hl rfl rfl (by simp)) rfl rfl rfl (Nat.le_refl _) (by simp) (fun k hk=>g2 k hk) ?_
    refine⟨b,(es.modify j fun e=>{ e with key:= .int kk n,val:=v },cR),q1,q2,⟨g1,MapKept.stamped_modify q3.2 j _ (fun _ _=>rfl) (fun x hx hj=>by rw[mR] at hj;injection hj with hj;subst hj;exact p3.symm)⟩,by simp[s1],by simp[s2],fun i e d he aS=>?_,fun i e d' he aS=>?_,bS⟩
    ·rw[Array.getElem?_modify] at he
     split at he
     ·rename_i hi;subst hi
      rw[mR] at he;simp at he;subst he
      rw[p4] at aS;injection aS with aS;subst aS;exact .int _ _
     exact r1 i e d he aS
    rw[Array.getElem?_modify] at he
    split at he
    ·rename_i hi;subst hi
     rw[mR] at he;simp at he;subst he
     have hj:j < vs.length:=by rw[←s2];exact(Array.getElem?_eq_some_iff.1 mR).1
     rw[List.getElem?_set,if_pos rfl,if_pos hj] at aS
     injection aS with aS;subst aS;exact hd
    rename_i bc
    rw[List.getElem?_set,if_neg bc] at aS;exact r2 i e d' he aS
   exact ae.elim
  exact ae.elim
 exact ae.elim
theorem ZU (hE:cp P V.E) (ah:aF w0 I0 w I m l) {t t2 ty:TypeId} {x k:Value} {tx tk:T} (hx:aq I m l x tx) (hk:aq I m l k tk) (ae:(rF V.E t l tx tk).ob) :
  (rF V.E t l tx tk).t = .d (.aI [])∧∃ l' w',(rF V.E t l tx tk).bn = .aP l'∧(Builtin.delete_ #[t,t2] ty #[x,k]).run P w = .ok (.tuple #[]) w'∧Le I m l I m l'∧aF w0 I0 w' I m l':=by
 unfold rF at ae ⊢
 split at ae
 ·rename_i kk i id jx n h1 h3
  have:=EC h3 hk;subst this
  obtain⟨kt,e,u1,u2,u3⟩:=LS hE h1
  split at ae
  ·rename_i oE;subst oE
   simp only[if_true]
   split at ae
   ·rename_i ks vs hl
    refine⟨rfl,?_⟩
    obtain⟨b,⟨es,cR⟩,q1,q2,q3,s1,s2,r1,r2,bS⟩:=ah.obj id _ hl
    replace q3:w.heap[b]?=some (.map es cR)∧MapKept.Stamped es cR:=q3
    simp only at s1 s2 r1 r2
    have rl:x = .map (some b):=by
     cases hx with
     | map r _ p1 p2=>
      have:=p2 (by unfold isRow;rw[hl];rfl)
      rw[q1] at this;exact this.symm
    subst rl
    have fk:∀ e:Bool,(Instr.checkKey e 10000 kt (.int kk n)).run P w = .ok () w:=fun e=>MapKept.run_checkKey (d:= .int kk) (n:=9999) u2 (by simp[MapKept.IsKey]) e
    have dt:own (m id)=some b:=by rw[q1];rfl
    rcases Dx (kk:=kk) (n:=n) es.toList ks 0 (by simpa using s1) (fun j e d q1 q2=>r1 j e d (by simpa using q1) q2) ae with ⟨p1,p2,p6⟩ | ⟨j,e',p1,p2,p3,p4,p5⟩
    ·simp only[p1]
     have hf:=MapKept.run_findKey (w:=w) u2 p2
     have fY:=MapKept.run_setObj_map (P:=P) (.map es cR) q3.1
     obtain⟨g1,g2⟩:=MapKept.heap_set (o':= .map es cR) q3.1
     refine⟨_,{ w with heap:=w.heap.setIfInBounds b (.map es cR) },rfl,?_,Le.setKind hl rfl rfl (by simp),?_⟩
     ·unfold Builtin.delete_
      simp[run_underlying u1,MapKept.run_getObj_map q3.1,fk,hf,fY]
     refine ah.sb hl (by simp) dt bS rfl rfl (Le.setKind hl rfl rfl (by simp)) rfl rfl rfl (Nat.le_refl _) (by simp) (fun k hk=>g2 k hk) ?_
     exact⟨b,(es,cR),q1,q2,⟨g1,q3.2⟩,s1,s2,r1,r2,bS⟩
    simp only[p1,Nat.zero_add]
    rw[Nat.zero_add] at p5
    have hf:=MapKept.run_findKey (w:=w) u2 p5
    have mR:es[j]?=some e':=by simpa using p2
    have nN:j < es.size:=(Array.getElem?_eq_some_iff.1 mR).1
    have fY:=MapKept.run_setObj_map (P:=P) (.map (es.eraseIdxIfInBounds j) cR) q3.1
    obtain⟨g1,g2⟩:=MapKept.heap_set (o':= .map (es.eraseIdxIfInBounds j) cR) q3.1
    have Sg:(es.eraseIdxIfInBounds j).toList=es.toList.eraseIdx j:=by
     unfold Array.eraseIdxIfInBounds;rw[dif_pos nN];simp
    have aK:(es.eraseIdxIfInBounds j).size=es.size - 1:=by
     have h:=congrArg List.length Sg
     rw[Array.length_toList,List.length_eraseIdx,if_pos (by simpa using nN),Array.length_toList] at h;exact h
    have bF:∀ (i:Nat),(es.eraseIdxIfInBounds j)[i]?=es[if i < j then i else i+1]?:=fun i=>by
     have:(es.eraseIdxIfInBounds j)[i]?=(es.eraseIdxIfInBounds j).toList[i]?:=Array.getElem?_toList.symm
     rw[this,Sg,List.getElem?_eraseIdx];split<;>simp
    refine⟨_,{ w with heap:=w.heap.setIfInBounds b (.map (es.eraseIdxIfInBounds j) cR) },rfl,?_,Le.setKind hl rfl rfl (by simp),?_⟩
    ·unfold Builtin.delete_
     simp[run_underlying u1,MapKept.run_getObj_map q3.1,fk,hf,fY]
    refine ah.sb hl (by simp) dt bS rfl rfl (Le.setKind hl rfl rfl (by simp)) rfl rfl rfl (Nat.le_refl _) (by simp) (fun k hk=>g2 k hk) ?_
    refine⟨b,(es.eraseIdxIfInBounds j,cR),q1,q2,⟨g1,MapKept.stamped_erase q3.2 j⟩,by rw[aK,List.length_eraseIdx,if_pos (by omega)];omega,by rw[aK,List.length_eraseIdx,if_pos (by omega)];omega,fun i e d he aS=>?_,fun i e d' he aS=>?_,bS⟩
    ·rw[bF] at he;rw[List.getElem?_eraseIdx] at aS
     split at he
     ·rename_i h;rw[if_pos h] at aS;exact r1 _ e d he aS
     rename_i h;rw[if_neg h] at aS;exact r1 _ e d he aS
    rw[bF] at he;rw[List.getElem?_eraseIdx] at aS
    split at he
    ·rename_i h;rw[if_pos h] at aS;exact r2 _ e d' he aS
    rename_i h;rw[if_neg h] at aS;exact r2 _ e d' he aS
   exact ae.elim
  exact ae.elim
 exact ae.elim
theorem acs (hE:cp P V.E) {t:TypeId} {x i:Value} {tx ti:T} (hx:aq I m L x tx) (hi:aq I m L i ti) (ae:(AH V.E t tx ti).ob) :
  (AH V.E t tx ti).bn = .none∧∃ u,(Instr.index t x i).run P w = .ok u w∧aq I m L u (AH V.E t tx ti).t:=by
 unfold AH at ae ⊢
 split at ae
 ·rename_i s k n hs h3
  have:=EC h3 hi;subst this
  have hu:=NG hE hs
  have:=cy hx;cases this
  have hn:n.toNat < s.size:=by have:=ae.2;omega
  have bF:s[n.toNat]?=some s[n.toNat]:=by rw[getElem?_pos s n.toNat hn]
  refine⟨rfl,.int .u8 (CX s n.toNat),?_,.d _ _ (.int _ _)⟩
  unfold Instr.index CX
  simp[asIntOf,run_underlying hu,ae.1,bF]
 exact ae.elim
theorem aF.aen (ah:aF w0 I0 w I m L) (e:TypeId) (cs:Array Value) (size:Nat) (ds:List D) (n c:Nat) (hn:ds.length=n) (hs:∀ d∈ds,d.cells.length=size∧∀ x∈d.cells,x.one=true) (fC:n≤c) (hlen:n*size≤cs.size) (jX:c≤maxLen)
  (ch:∀ (j:Nat) x y,cs[j]?=some x→(flat ds)[j]?=some y→Rd I x y) :
  ∃ J,Le I m L J m L∧aF w0 I0 (w.alloc (.cells cs e)) J m L∧Rd J (.slice (some ⟨w.heap.size,0,none⟩) n c) (.slice size ds):=by
 have bS:=ah.sat.eZ (Nat.le_refl w.heap.size)
 let J:=I.ez w.heap.size cs.toList
 have hle:I.le J:=⟨fun b o v hc=>by
  have hb:b≠w.heap.size:=by rintro rfl;rw[bS.1 o] at hc;cases hc
  simp[J,aw.ez,hb,hc],fun _ _ h=>h,fun _ h=>h⟩
 have im:∀ b,b≠w.heap.size→J.cell b=I.cell b:=fun b hb=>by funext o;simp[J,aw.ez,hb]
 have du:dH (w.alloc (.cells cs e)) J:=⟨fun b o v hc=>by
  by_cases hb:b=w.heap.size
  ·subst hb
   simp only[J,aw.ez,if_true] at hc
   rw[World.cell?_alloc_new]
   cases hx:cs[o]? with
   | none=>simp[hx,bS.1 o] at hc
   | some x=>simpa [hx] using hc
  ·rw[im b hb] at hc
   rw[World.cell?_alloc_lt w _ _ (ah.sat.lt hc)];exact ah.sat.cell b o v hc,fun b es hc=>by
  have hh:=ah.sat.mp b es hc
  exact gd.to (Below.heap_alloc w _ b (ah.sat.qb hc)) hh,fun b hd=>(Below.heap_alloc w _ b (ah.sat.mr hd)).trans (ah.sat.df b hd),fun g d h=>(ah.sat.dA g d h).mono hle⟩
 obtain⟨r1,r2⟩:=ah.call (eB.alloc (eB.refl _ _) (Nat.le_refl _) _) (.of hle (fun b hb=>im b (by omega)) (fun _ _=>rfl)) du
 refine⟨J,r2,r1,.slice _ 0 n c size ds (fun k=>(cs[k]?).getD undef) hn fC jX hs (fun k hk=>?_) (fun k x hx=>?_)⟩
 ·have:cs[k]?=some (cs[k]'(by omega)):=Array.getElem?_eq_getElem (by omega)
  simp[J,aw.ez,this]
 have hk:k < n*size:=by rw[←hn,←jm ds (fun d hd=>(hs d hd).1)];exact(List.getElem?_eq_some_iff.1 hx).1
 have:cs[k]?=some (cs[k]'(by omega)):=Array.getElem?_eq_getElem (by omega)
 rw[this];exact(ch k _ x this hx).mono hle
theorem aF.drew (h:aF w0 I0 w I m L):aF w0 I0 w.drew I m L:=⟨h.below.drew,⟨h.sat.cell,h.sat.mp,h.sat.df,h.sat.dA⟩,h.ext,fun id o ho=>(h.obj id o ho).iZ (Le.refl I m L) (fun _ _=>rfl) (fun _ _=>⟨rfl,rfl⟩),h.sep⟩
theorem Rj:∀ (ds:List D),(∀ d∈ds,∃ n,d = .int .i32 n)→flat ds=ds
 | [],_=>rfl
 | d::ds,h=>by
  obtain⟨n,rfl⟩:=h d (by simp)
  have ih:=Rj ds (fun x hx=>h x (by simp[hx]))
  unfold flat at ih ⊢
  rw[List.flatMap_cons,ih];rfl
theorem IG (hE:cp P V.E) (ah:aF w0 I0 w I m L) {src t:TypeId} {x:Value} {tx:T} (hx:aq I m L x tx) (ae:(uw V.E src t tx).ob) :
  (uw V.E src t tx).bn = .none∧∃ u w' J,(convert src t x).run P w = .ok u w'∧Le I m L J m L∧aF w0 I0 w' J m L∧aq J m L u (uw V.E src t tx).t:=by
 have eX:∀ {t:TypeId} {s b:Nat} {z:List D} {k:IntKind},V.E t=some ⟨s,b,z,.eX k⟩→P.underlying t=some (.int k):=by
  intro t s b z k hs
  obtain⟨x,z',_,_,_,_,_,_,h7,_⟩:=ga (hE t _ hs)
  simp only[kL] at h7
  split at h7
  ·rename_i k' he;simp at h7;subst h7;exact he
  cases h7
 unfold uw at ae ⊢
 split at ae
 ·rename_i k0 k k' n Kw hs
  have hu:=eX hs
  have ff:=eX Kw
  have:=cy hx;cases this
  refine⟨rfl,.int k (k.wrap n),w,I,?_,.refl ..,ah,.d _ _ (.int _ _)⟩
  unfold convert
  simp[run_underlying ff,run_underlying hu,Conv.intToInt]
 ·rename_i e s Kw hs
  split at ae
  ·rename_i he
   have hu:=mG hE hs
   have hue:=eX he
   have:=cy hx;cases this
   have aK:(Conv.runesFrom s s.size 0 #[]).size≤16777216:=by
    have:=size_runesFrom s s.size 0 #[];simp at this;have h2:s.size≤16777216:=ae;omega
   have bP:=run_runes_of_string (P:=P) w src t e s (NG hE Kw) hu hue (by omega)
   have hint:=WO s s.size 0 #[] (by simp)
   generalize hr:Conv.runesFrom s s.size 0 #[]=rs at *
   have hD:B7 s=rs.toList.map WN:=by unfold B7;rw[hr]
   have ff:∀ d∈B7 s,∃ n,d = .int .i32 n:=by
    rw[hD];intro d hd
    obtain⟨v,hv,rfl⟩:=List.mem_map.1 hd
    obtain⟨n,rfl⟩:=hint v hv
    exact⟨n,rfl⟩
   obtain⟨J,q1,q2,q3⟩:=(ah.drew).aen e (rs++Array.replicate (grownCap w rs.size 0 e - rs.size) (.int .i32 0)) 1 (B7 s) rs.size (grownCap w rs.size 0 e) (by simp[hD]) (fun d hd=>by obtain⟨n,rfl⟩:=ff d hd;simp[D.cells,D.one]) (grownCap_ge w rs.size 0 e) (by simp)
    (by
      have h0:grownCap w rs.size 0 e=rs.size+w.tape w.drawn (.appendCap rs.size 0 e) % (2 ^ 63 - rs.size):=rfl
      have:w.tape w.drawn (Question.appendCap rs.size 0 e) % (2 ^ 63 - rs.size) < 2 ^ 63 - rs.size:=Nat.mod_lt _ (by omega)
      rw[h0];unfold maxLen;omega)
    (
     fun j x y hx hy=>by
     rw[Rj _ ff,hD] at hy
     rw[List.getElem?_map] at hy
     have hj:j < rs.size:=by
      cases hq:rs.toList[j]? with
      | none=>rw[hq] at hy;simp at hy
      | some z=>have:=(List.getElem?_eq_some_iff.1 hq).1;simpa using this
     rw[Array.getElem?_append_left hj] at hx
     have cK:rs.toList[j]?=some x:=by simpa using hx
     rw[cK] at hy;simp at hy;subst hy
     obtain⟨n,rfl⟩:=hint x (List.mem_of_getElem? cK)
     exact .int _ _)
   exact⟨rfl,_,_,J,bP,q1,q2,.d _ _ q3⟩
  exact ae.elim
 exact ae.elim
theorem aF.GC {ob:AO} (ah:aF w0 I0 w I m l) {w':World} {v:Value} {b0:Nat} (dt:own v=some b0) (mg:w.heap.size≤b0)
  (hg:w.grownBy w' none) (qV:w.drawn≤w'.drawn) (SH:∀ e s els,ob ≠ .row e s els∧ob ≠ .bx e s els) (cr:jM w0.heap.size w' I (aP m l.length v) (l++[ob]) v ob) :
  Le I m l I (aP m l.length v) (l++[ob])∧aF w0 I0 w' I (aP m l.length v) (l++[ob]):=by
 have bF:∀ k,k < l.length→(l++[ob])[k]?=l[k]?:=fun k hk=>List.getElem?_append_left (by omega)
 have lI:(l++[ob])[l.length]?=some ob:=by simp
 have hle:Le I m l I (aP m l.length v) (l++[ob]):=by
  refine⟨.refl I,by simp,fun id an hv=>⟨?_,cO m v (by omega)⟩,fun id an hr=>⟨?_,cO m v (by omega)⟩,fun id e' s' els' an hh=>⟨els',?_⟩⟩
  ·unfold isVar at hv ⊢;rw[bF id an];exact hv
  ·unfold isRow at hr ⊢;rw[bF id an] at hr;exact hr
  rw[bF id an] at hh;exact hh
 have hold:∀ k,alive l k=true→∀ b,own (m k)=some b→b < w.heap.size:=by
  intro k hk b hb
  obtain⟨o,ho,hd⟩:=bN.1 hk
  exact((ah.obj k o ho).lt hd hb).1
 refine⟨hle,⟨ah.below.trans ⟨hg.os,hg.tape,hg.output,hg.size,fun k hk=>hg.block k (by have:=ah.below.size;omega) (by simp),fun _=>qV⟩,⟨fun b o u hc=>?_,fun b es hc=>?_,fun b hd=>(hg.block b (ah.sat.mr hd) (by simp)).trans (ah.sat.df b hd),ah.sat.dA⟩,ah.ext,fun id o ho=>?_,fun i j b cm hi hj cI cJ=>?_⟩⟩
 ·exact(World.cell?_of_block (w:=w) (a:=⟨b,o,none⟩) (hg.block b (ah.sat.lt hc) (by simp))).trans (ah.sat.cell b o u hc)
 ·have hh:=ah.sat.mp b es hc
  exact gd.to (hg.block b (ah.sat.qb hc) (by simp)) hh
 ·by_cases an:id < l.length
  ·rw[bF id an] at ho;rw[cO m v (by omega)]
   by_cases hd:o = .dead
   ·subst hd;trivial
   exact(ah.obj id o ho).iZ hle (fun b hb=>hg.block b ((ah.obj id o ho).lt hd hb).1 (by simp)) (fun _ _=>⟨rfl,rfl⟩)
  have:id=l.length:=by
   have:=(List.getElem?_eq_some_iff.1 ho).1;simp at this;omega
  subst this
  rw[lI] at ho;injection ho with ho;subst ho
  rw[fH]
  exact cr
 have cW:∀ k,k≠l.length→alive (l++[ob]) k=true→alive l k=true:=by
  intro k hk ha
  obtain⟨o,ho,hd⟩:=bN.1 ha
  have fL:k < l.length:=by have:=(List.getElem?_eq_some_iff.1 ho).1;simp at this;omega
  rw[bF k fL] at ho
  exact bN.2 ⟨o,ho,hd⟩
 by_cases h1:i=l.length
 ·subst h1;rw[fH] at cI;rw[cO m v (Ne.symm cm)] at cJ
  rw[dt] at cI;injection cI with cI
  have:=hold j (cW j (Ne.symm cm) hj) b cJ;omega
 by_cases h2:j=l.length
 ·subst h2;rw[fH] at cJ;rw[cO m v cm] at cI
  rw[dt] at cJ;injection cJ with cJ
  have:=hold i (cW i cm hi) b cI;omega
 rw[cO m v h1] at cI;rw[cO m v h2] at cJ
 exact ah.sep i j b cm (cW i h1 hi) (cW j h2 hj) cI cJ
theorem aF.agj (ah:aF w0 I0 w I m l) {w':World} {v:Value} {b0:Nat} (dt:own v=some b0) (mg:w.heap.size≤b0)
  (hg:w.grownBy w' none) (qV:w.drawn≤w'.drawn) (cr:jM w0.heap.size w' I m l v (.map [] [])) :
  Le I m l I (aP m l.length v) (l++[.map [] []])∧aF w0 I0 w' I (aP m l.length v) (l++[.map [] []]):=ah.GC dt mg hg qV (by simp) cr
theorem YF {es:ME} {i:Nat} {e:MapEntry} (h:es.1[i]?=some e):CU es i=e.born:=by simp[CU,h]
theorem M3 {tx:T} (hE:cp P V.E) (ah:aF w0 I0 w I m L) {t:TypeId} {x:Operand} (ho:o.op = .range t x) (hx:aq I m L (ρ x) tx) (ae:(GO V.E t l nid tx).ob):bW P w0 I0 o ρ w I m l L nid (GO V.E t l nid tx):=by
 unfold GO at ae ⊢
 split at ae
 ·rename_i kt e id hs
  split at ae
  ·rename_i ks vs l' hd
   try simp only[hd]
   rintro rfl rfl
   have hu:P.underlying t=some (.map kt e):=by
    obtain⟨x,z',_,_,_,_,_,_,h7,_⟩:=ga (hE t _ hs)
    simp only[kL] at h7
    split at h7
    ·rename_i k' e' he;simp at h7;obtain⟨rfl,rfl⟩:=h7;exact he
    cases h7
   have hv:∃ b,ρ x = .map (some b):=by
    generalize mT:ρ x=vx at hx
    cases hx with
    | map r _ p1 p2=>
     simp only[ei,dp] at hd
     split at hd
     ·rename_i hl
      obtain⟨b,es,q1,_⟩:=ah.obj id _ hl
      have:=p2 (by unfold isRow;rw[hl];rfl)
      rw[q1] at this;injection this with this;exact⟨b,by rw[←this]⟩
     ·rename_i hl
      obtain⟨b,es,q1,_⟩:=ah.obj id _ hl
      have:=p2 (by unfold isRow;rw[hl];rfl)
      rw[q1] at this;injection this with this;exact⟨b,by rw[←this]⟩
     cases hd
   obtain⟨b,En⟩:=hv
   obtain⟨J,hle,nQ,ch,hlen⟩:=wF ah hx hd
   rw[En] at ch
   cases ch with
   | map _ es _ _ q1 q2 q3 q4 q5=>
    have hh:=nQ.sat.mp b es q1
    have bP:=run_range_map (P:=P) w t kt e b es.1 es.2 hu hh.1
    have hex:(execOp ρ o).run P w = .ok (.value (.pointer (some ⟨w.heap.size,0,none⟩))) (w.alloc (.mapIter (some b) es.2 #[] es.2)):=by
     unfold execOp;simp[ho,En,bP]
    simp only[hex,cz]
    obtain⟨k1,k2⟩:=nQ.GC (ob:= .iter ks vs []) (w':=w.alloc (.mapIter (some b) es.2 #[] es.2)) (v:= .pointer (some ⟨w.heap.size,0,none⟩)) rfl (Nat.le_refl _) (World.grownBy_alloc w _ _) (Nat.le_refl _) (by simp)
     ⟨w.heap.size,some b,es,#[],rfl,ah.below.size,heap_alloc_new w _,⟨fun r hr=>by injection hr with hr;subst hr;exact q1,fun h=>by cases h⟩,q2,q3,q4,q5,⟨rfl,by simp⟩,nQ.sat.eZ (Nat.le_refl _)⟩
    refine⟨J,_,hle.trans k1,k2,?_⟩
    rw[←hlen]
    exact .ptr _ _ 0 (by unfold isVar;simp[AO.isVar]) (fH m _ _)
  exact ae.elim
 ·rename_i kt e ks vs hs
  rintro rfl rfl
  have hu:P.underlying t=some (.map kt e):=by
   obtain⟨x,z',_,_,_,_,_,_,h7,_⟩:=ga (hE t _ hs)
   simp only[kL] at h7
   split at h7
   ·rename_i k' e' he;simp at h7;obtain⟨rfl,rfl⟩:=h7;exact he
   cases h7
  have hd:=cy hx
  have fin:∀ (mb:Option Nat) (es:ME),((∀ r,mb=some r→I.mp r=some es)∧(mb=none→es.1 = #[]))→es.1.size=ks.length→es.1.size=vs.length→(∀ (i:Nat) (e:MapEntry) (d:D),es.1[i]?=some e→ks[i]?=some d→Rd I e.key d)→(∀ (i:Nat) (e:MapEntry) (d:D),es.1[i]?=some e→vs[i]?=some d→Rd I e.val d) →
    (execOp ρ o).run P w = .ok (.value (.pointer (some ⟨w.heap.size,0,none⟩))) (w.alloc (.mapIter mb es.2 #[] es.2))→cz P ((execOp ρ o).run P w) fun v w'=>∃ J m',Le I m L J m' (L++[.iter ks vs []])∧aF w0 I0 w' J m' (L++[.iter ks vs []])∧aq J m' (L++[.iter ks vs []]) v (.ptr L.length 0):=by
   intro mb es q1 q2 q3 q4 q5 hex
   simp only[hex,cz]
   obtain⟨k1,k2⟩:=ah.GC (ob:= .iter ks vs []) (w':=w.alloc (.mapIter mb es.2 #[] es.2)) (v:= .pointer (some ⟨w.heap.size,0,none⟩)) rfl (Nat.le_refl _) (World.grownBy_alloc w _ _) (Nat.le_refl _) (by simp)
    ⟨w.heap.size,mb,es,#[],rfl,ah.below.size,heap_alloc_new w _,q1,q2,q3,q4,q5,⟨rfl,by simp⟩,ah.sat.eZ (Nat.le_refl _)⟩
   exact⟨I,_,k1,k2,.ptr _ _ 0 (by unfold isVar;simp[AO.isVar]) (fH m _ _)⟩
  generalize mT:ρ x=vx at hd
  cases hd with
  | tj=>exact fin none (#[],0) ⟨fun r hr=>(by cases hr),fun _=>rfl⟩ rfl rfl (by simp) (by simp) (by unfold execOp;simp[ho,mT,run_range_nilMap (P:=P) w t kt e hu])
  | map b es _ _ q1 q2 q3 q4 q5=>
   have hh:=ah.sat.mp b es q1
   have bP:=run_range_map (P:=P) w t kt e b es.1 es.2 hu hh.1
   exact fin (some b) es ⟨fun r hr=>by injection hr with hr;subst hr;exact q1,fun h=>by cases h⟩ q2 q3 q4 q5 (by unfold execOp;simp[ho,mT,bP])
 exact ae.elim
theorem aaa {tx:T} (ah:aF w0 I0 w I m L) (hc:fw l L) {x:Operand} (ho:o.op = .entry x) (hx:aq I m L (ρ x) tx) (ae:(Dq l tx).ob):bW P w0 I0 o ρ w I m l L nid (Dq l tx):=by
 unfold Dq at ae ⊢
 split at ae
 ·rename_i id
  split at ae
  ·rename_i ks vs done hl
   split at ae
   ·rename_i i hi
    split at ae
    ·rename_i k v hk hv
     try simp only[hl,hi,hk,hv]
     obtain⟨b,mb,es,seen,q1,q2,q3,q4,q5,q6,q7,q8,⟨q9,q10⟩,q11⟩:=ah.obj id _ (hc.get hl)
     generalize mT:ρ x=vx at hx
     cases hx with
     | ptr _ b' _ p1 p2=>
      rw[q1] at p2;injection p2 with p2;injection p2 with p2;injection p2 with p2;subst p2
      have sL:i < es.1.size:=q10 i (List.mem_of_getLast? hi)
      obtain⟨r,rfl⟩:∃ r,mb=some r:=by
       cases mb with
       | none=>have:=q4.2 rfl;rw[this] at sL;simp at sL
       | some r=>exact⟨r,rfl⟩
      have hh:=ah.sat.mp r es (q4.1 r rfl)
      have JN:es.1[i]?=some es.1[i]:=Array.getElem?_eq_getElem sL
      obtain⟨init,abz⟩:∃ init,done=init++[i]:=by
       obtain⟨ys,rm⟩:=List.getLast?_eq_some_iff.1 hi
       exact⟨ys,rm⟩
      have ab1:seen=(init.map (CU es)).toArray.push es.1[i].born:=by
       apply Array.toList_inj.1
       rw[q9,abz];simp[YF JN]
      rw[ab1] at q3
      have bP:=run_entry_at (P:=P) w b r es.2 _ es.1 es.2 es.1[i] q3 hh.1 (by simp) hh.2.2.1
      refine bW.val ah rfl (u:= .tuple #[es.1[i].key,es.1[i].val]) (by unfold execOp;simp[ho,mT,bP]) (.d _ _ (.aI _ _ rfl fun j u d hu hd=>?_))
      rcases j with _ | _ | j
      ·simp at hu hd;subst hu;subst hd;exact q7 i _ _ JN hk
      ·simp at hu hd;subst hu;subst hd;exact q8 i _ _ JN hv
      simp at hu
    exact ae.elim
   exact ae.elim
  exact ae.elim
 exact ae.elim
theorem LO (ah:aF w0 I0 w I m l) {t:TypeId} (ho:o.op = .makeMap t none):bW P w0 I0 o ρ w I m l L nid ⟨.map nid,.aP (l++[.map [] []]),True⟩:=by
 rintro rfl rfl
 have hx:(execOp ρ o).run P w = .ok (.value (.map (some w.heap.size))) (w.alloc (.map #[] 0)):=by
  unfold execOp;simp[ho,Instr.makeMap]
 simp only[hx,cz]
 obtain⟨q1,q2⟩:=ah.agj (w':=w.alloc (.map #[] 0)) (v:= .map (some w.heap.size)) rfl (Nat.le_refl _) (World.grownBy_alloc w _ _) (Nat.le_refl _) ⟨_,(#[],0),rfl,ah.below.size,⟨heap_alloc_new w _,MapKept.stamped_empty 0⟩,rfl,rfl,by simp,by simp,ah.sat.eZ (Nat.le_refl _)⟩
 exact⟨I,_,q1,q2,.map _ _ (by simp) (fun _=>fH m _ _)⟩
end
end Go.aj
namespace Go.aj
open Go Go.RowKit
variable [bh]
section
variable {P:Program} {V:Env} {w0 w w':World} {I0 I:aw} {m:Nat→Value} {l L:List AO} {nid:Nat} {o:Oper} {ρ:Operand→Value} {ρT:Operand→T}
theorem ai6 (hE:cp P V.E) {t:TypeId} {sz bt:Nat} {z:List D} {k:IntKind} (h:V.E t=some ⟨sz,bt,z,.eX k⟩):P.underlying t=some (.int k):=by
 obtain⟨x,z',_,_,_,_,_,_,h7,_⟩:=ga (hE t _ h)
 simp only[kL] at h7
 split at h7
 ·rename_i k' he;simp at h7;subst h7;exact he
 cases h7
theorem YI (hE:cp P V.E) {t:TypeId} {sz bt n:Nat} {z:List D} {ds:List T} {e:TypeId} {parts:Array (Nat×Operand)} (hs:V.E t=some ⟨sz,bt,z,.array n e⟩) (hr:∀ p∈parts.toList,aq I m L (ρ p.2) (ρT p.2))
  (hf:oy (fun i=>some (i*bq V.E e,bq V.E e)) (z.map lU) (parts.toList.map fun p=>(p.1,ρT p.2))=some ds) (bA:(V.E e).isSome=true) :
  ∃ u,(Instr.build t (parts.map fun(i,x)=>(i,ρ x))).run P w = .ok u w∧aq I m L u (jy true ds):=by
 have hu:=Hq hE hs
 obtain⟨x,zv,h1,h2,h3,h4,h5,h6,h7,h8⟩:=ga (hE t _ hs)
 have hc:qz I m L zv.cells.toList (z.map lU):=by
  obtain⟨k1,k2,k3⟩:=se I _ _ h5
  have k1:zv.cells.toList.length=z.length:=k1
  refine⟨by simpa using k1,fun v hv=>?_,fun i v t hv ht=>?_⟩
  ·obtain⟨j,hj,rfl⟩:=List.mem_iff_getElem.1 hv
   have il:j < z.length:=by omega
   exact(k3 j _ _ (List.getElem?_eq_getElem hj) (List.getElem?_eq_getElem il)).one (k2 _ (List.getElem_mem il))
  rw[List.getElem?_map] at ht
  cases hz:z[i]? with
  | none=>simp[hz] at ht
  | some d=>simp[hz] at ht;subst ht;exact NW (Cy h5 hv hz)
 obtain⟨nB,z7,eU⟩:=jl (ρ:=ρ) (ρT:=ρT) (m:=m) (L:=L) (fun i=>some (i*bq V.E e,bq V.E e)) parts.toList zv.cells _ ds hc hr hf
 obtain⟨ie,fV⟩:=Option.isSome_iff_exists.1 bA
 obtain⟨x',_,k1,k2,_⟩:=ga (hE _ _ fV)
 have aK:x'.size=bq V.E e:=by simp[bq,fV,k2]
 have hb:P.built t (parts.map fun(i,x)=>(i,ρ x)).toList=some nB:=by
  unfold Program.built
  have e1:(parts.map fun(i,x)=>(i,ρ x)).toList=parts.toList.map fun p=>(p.1,ρ p.2):=by simp
  simp only[h1,hu,h4,k1,aK]
  rw[←z7,e1]
 refine⟨_,run_build w t _ _ hb,?_⟩
 have:=L2 (I:=I) (m:=m) (L:=L) (i:=⟨nB.size,0,[],.struct []⟩) (vs:=nB.toList) (ts:=ds) eU.1 (by simp) (by simp[TD.agg]) (fun j v t hv ht=>⟨eU.2.2 j v t hv ht,eU.2.1 v (List.mem_of_getElem? hv)⟩)
 simpa [TD.agg] using this
theorem zE:∀ {cs:List D},cs.all D.one=true→flat cs=cs
 | [],_=>rfl
 | d::cs,h=>by
  simp only[List.all_cons,Bool.and_eq_true] at h
  have:d.cells=[d]:=by cases d<;>simp[D.one] at h<;>rfl
  simp only[flat,List.flatMap_cons,this]
  have ih:=zE h.2
  unfold flat at ih
  rw[ih];rfl
theorem ah3 (hE:cp P V.E) {t e:TypeId} {sz bt n:Nat} {z:List D} (hs:V.E t=some ⟨sz,bt,z,.array n e⟩) {v:Value} {cs:List D} (hx:aq I m L v (.d (.box (.agg cs)))) (ae:(wy V.E n e cs).ob) :
  (wy V.E n e cs).bn = .none∧∃ u,(Instr.sliceAt t v none none none).run P w = .ok u w∧aq I m L u (wy V.E n e cs).t:=by
 unfold wy at ae ⊢
 split at ae
 ·rename_i h
  rw[if_pos h]
  obtain⟨h1,h2,h3,h4,h5⟩:=h
  refine⟨rfl,?_⟩
  have hu:=Hq hE hs
  have cW:P.arrayLen t=n:=by simp[Program.arrayLen,hu]
  have eV:P.elem t=e:=by simp[Program.elem,hu]
  have c8:P.underlying t=some (.array (P.arrayLen t) (P.elem t)):=by rw[cW,eV];exact hu
  obtain⟨ie,fV⟩:=Option.isSome_iff_exists.1 h2
  have aK:(sizeOf (P.elem t)).run P w = .ok 1 w:=by
   rw[eV,mz hE fV];congr 1;simpa [bq,fV] using h1
  have hd:=cy hx
  cases hd with
  | box b _ val q1 q2 q3=>
   have bP:=run_sliceAt_array_all (P:=P) (w:=w) (t:=t) (a:=⟨b,0,none⟩) c8
   rw[aK,cW] at bP
   refine⟨_,bP,?_⟩
   refine .d _ _ ?_
   have jr:∀ d∈cs,d.one=true:=fun d hd=>List.all_eq_true.1 h5 d hd
   have gx:∀ d:D,d.one=true→d.cells=[d]:=by intro d hd;cases d<;>simp[D.one] at hd<;>rfl
   have de:∀ (o:Nat),slicedAt ⟨b,0,none⟩ 0 n n 1 = .slice (some ⟨b,0,none⟩) n n:=by
    intro o
    unfold slicedAt
    split
    ·simp
    simp[Addr.add]
   rw[de 0]
   refine .slice b 0 n n 1 cs val h3 (Nat.le_refl _) (by unfold maxLen;omega) (fun d hd=>⟨by rw[gx d (jr d hd)];rfl,fun x hx=>by rw[gx d (jr d hd)] at hx;simp at hx;subst hx;exact jr _ hd⟩) (fun k hk=>?_) (fun k x hk=>?_)
   ·have:=q2 k (by simp[D.cells];omega)
    simpa using this
   rw[zE h5] at hk
   exact q3 k x (by simpa [D.cells] using hk)
 exact ae.elim
theorem ahv {v:Value} {d:D} {kk:IntKind} (h:Rd I v d) (hd:EB kk d=true):∃ n,v = .int kk n∧d = .int kk n:=by
 cases d<;>simp[EB] at hd
 subst hd
 cases h;exact⟨_,rfl,rfl⟩
theorem M4 {v:Value} {d:D} {n:Nat} {kk:IntKind} (h:Rd I v d) (hd:xT n kk d=true):∃ ns:List Int,ns.length=n∧v = .agg (ns.map fun n=>Value.int kk n).toArray∧d = .agg (ns.map fun n=>D.int kk n):=by
 cases d<;>simp only[xT,Bool.and_eq_true,decide_eq_true_eq] at hd<;>try cases hd
 rename_i cs hlen bA
 cases h with
 | agg vs _ q1 q2 q3=>
  have key:∀ (cs:List D) (vs:List Value),vs.length=cs.length→cs.all (EB kk)=true→(∀ (i:Nat) v d,vs[i]?=some v→cs[i]?=some d→Rd I v d)→∃ ns:List Int,ns.length=cs.length∧vs=ns.map (fun n=>Value.int kk n)∧cs=ns.map (fun n=>D.int kk n):=by
   intro cs
   induction cs with
   | nil=>intro vs h1 _ _;exact⟨[],rfl,by simpa using h1,rfl⟩
   | cons c cs ih=>
    intro vs h1 h2 h3
    cases vs with
    | nil=>simp at h1
    | cons v vs=>
     simp only[List.all_cons,Bool.and_eq_true] at h2
     obtain⟨n,rfl,rfl⟩:=ahv (h3 0 v c rfl rfl) h2.1
     obtain⟨ns,k1,k2,k3⟩:=ih vs (by simpa using h1) h2.2 (fun i v d a b=>h3 (i+1) v d (by simpa using a) (by simpa using b))
     exact⟨n::ns,by simp[k1],by simp[k2],by simp[k3]⟩
  obtain⟨ns,k1,k2,k3⟩:=key cs vs.toList (by simpa using q1) bA (fun i v d a b=>q3 i v d (by simpa using a) b)
  refine⟨ns,by omega,?_,by rw[k3]⟩
  congr 1
  apply Array.toList_inj.1
  simpa using k2
theorem CR {kk:IntKind}:∀ (a b:List Int),dJ (a.map fun n=>D.int kk n) (b.map fun n=>D.int kk n)=decide (a=b)
 | [],[]=>by simp[dJ]
 | [],_::_=>by simp[dJ]
 | _::_,[]=>by simp[dJ]
 | x::a,y::b=>by
  simp only[List.map_cons,dJ,jN,CR a b]
  rw[Bool.eq_iff_iff];simp
theorem MS {e:TypeId} {kk:IntKind} (he:P.underlying e=some (.int kk)):P.plainKey e=true:=by simp[Program.plainKey,he]
theorem WI (d:Nat) {e:TypeId} {kk:IntKind} (he:P.underlying e=some (.int kk)) (hc:P.cellsOf e=1) (a b:List Int):∀ (is:List Nat),(∀ i∈is,i < a.length∧i < b.length) →
  (Op.eqItems (d+1) e (P.cellsOf e) (a.map fun n=>Value.int kk n).toArray (b.map fun n=>Value.int kk n).toArray is).run P w = .ok (is.all fun i=>decide (a[i]?=b[i]?)) w
 | [],_=>by simp[Op.eqItems]
 | i::is,h=>by
  have hi:=h i (by simp)
  have ea:(a.map fun n=>Value.int kk n).toArray[i*P.cellsOf e]?=some (.int kk a[i]):=by simp[hc,hi.1]
  have eb:(b.map fun n=>Value.int kk n).toArray[i*P.cellsOf e]?=some (.int kk b[i]):=by simp[hc,hi.2]
  simp only[Op.eqItems,Sem.run_bind,run_part_plain w (MS he) ea,run_part_plain w (MS he) eb,Result.andThen_ok,run_equalIn_int w d e kk _ _ _ he]
  by_cases dg:a[i]=b[i]
  ·have:=WI d he hc a b is (fun j hj=>h j (by simp[hj]))
   simp only[dg,BEq.rfl,Bool.not_true,Bool.false_eq_true,if_false]
   rw[this]
   simp[dg,hi.1,hi.2]
  simp[dg,hi.1,hi.2,beq_eq_false_iff_ne.2 dg]
theorem Yc {a b:List Int} (h:a.length=b.length):((List.range a.length).all fun i=>decide (a[i]?=b[i]?))=decide (a=b):=by
 rw[Bool.eq_iff_iff]
 simp only[List.all_eq_true,List.mem_range,decide_eq_true_eq]
 constructor
 ·intro hh
  apply List.ext_getElem? 
  intro i
  by_cases hi:i < a.length
  ·exact hh i hi
  rw[List.getElem?_eq_none (by omega),List.getElem?_eq_none (by omega)]
 rintro rfl i _;rfl
theorem ahE {kt e:TypeId} {n:Nat} {kk:IntKind} (hu:P.underlying kt=some (.array n e)) (he:P.underlying e=some (.int kk)) {i:TypeInfo} (hi:P.info? e=some i) (hc:P.cellsOf e=1) (a b:List Int) (ha:a.length=n) (hb:b.length=n) :
  (Op.equal kt (.agg (a.map fun n=>Value.int kk n).toArray) (.agg (b.map fun n=>Value.int kk n).toArray)).run P w = .ok (decide (a=b)) w:=by
 unfold Op.equal
 rw[show Op.maxDepth=9998+1+1 by rfl,run_equalIn_array w (9998+1) _ _ hu hi,WI 9998 he hc a b _ (fun i hi=>by simp at hi;omega),←ha,Yc (by omega)]
theorem I6 {kt e:TypeId} {n:Nat} {kk:IntKind} (hu:P.underlying kt=some (.array n e)) (he:P.underlying e=some (.int kk)) {ti:TypeInfo} (hi:P.info? e=some ti) (hc:P.cellsOf e=1) (ns:List Int) (gO:ns.length=n):∀ (es:List MapEntry) (ks:List D) (i:Nat),es.length=ks.length →
  (∀ (j:Nat) (x:MapEntry) (d:D),es[j]?=some x→ks[j]?=some d→Rd I x.key d)→ks.all (xT n kk)=true →
  (s9 (.agg (ns.map fun n=>D.int kk n)) ks i=none∧(Instr.findAsking kt (.agg (ns.map fun n=>Value.int kk n).toArray) es i).run P w = .ok none w∧∀ x∈es,x.key ≠ .agg (ns.map fun n=>Value.int kk n).toArray) ∨
  ∃ j x,s9 (.agg (ns.map fun n=>D.int kk n)) ks i=some (i+j)∧es[j]?=some x∧x.key = .agg (ns.map fun n=>Value.int kk n).toArray∧ks[j]?=some (.agg (ns.map fun n=>D.int kk n))∧(Instr.findAsking kt (.agg (ns.map fun n=>Value.int kk n).toArray) es i).run P w = .ok (some (i+j,x.val)) w
 | [],[],i,_,_,_=> .inl ⟨rfl,by simp[Instr.findAsking],by simp⟩
 | x::es,d::ks,i,hl,hr,hk=>by
  simp only[List.all_cons,Bool.and_eq_true] at hk
  obtain⟨as,ha,iU,rfl⟩:=M4 (hr 0 x d rfl rfl) hk.1
  have heq:=ahE (w:=w) hu he hi hc ns as gO ha
  by_cases gN:ns=as
  ·subst gN
   refine .inr ⟨0,x,by simp[s9,EU,CR],rfl,iU,rfl,?_⟩
   simp only[Instr.findAsking,iU,Sem.run_bind,heq,Result.andThen_ok]
   simp
  rcases I6 hu he hi hc ns gO es ks (i+1) (by simpa using hl) (fun j e d h1 h2=>hr (j+1) e d (by simpa using h1) (by simpa using h2)) hk.2 with ⟨h1,h2,h6⟩ | ⟨j,e',h1,h2,h3,h4,h5⟩
  ·refine .inl ⟨by simp[s9,EU,CR,gN,h1],?_,fun y hy=>?_⟩
   ·simp only[Instr.findAsking,iU,Sem.run_bind,heq,Result.andThen_ok]
    simp[gN,h2]
   rcases List.mem_cons.1 hy with rfl | hy
   ·rw[iU];intro he
    injection he with he
    have:=congrArg Array.toList he
    simp only[List.map_inj_left,List.toList_toArray] at this
    exact gN ((List.map_inj_right (fun a b h=>by injection h)).1 this.symm)
   exact h6 y hy
  refine .inr ⟨j+1,e',by simp only[s9,EU,CR,gN];simp[h1];omega,by simpa using h2,h3,by simpa using h4,?_⟩
  simp only[Instr.findAsking,iU,Sem.run_bind,heq,Result.andThen_ok]
  simp[gN,h5];omega
theorem WG {kt e:TypeId} {n:Nat} {kk:IntKind} (hu:P.underlying kt=some (.array n e)) (he:P.underlying e=some (.int kk)) {ti:TypeInfo} (hi:P.info? e=some ti) (hc:P.cellsOf e=1) (ns:List Int) (gO:ns.length=n) (em:Bool) :
  (Instr.checkKey em 10000 kt (.agg (ns.map fun n=>Value.int kk n).toArray)).run P w = .ok () w:=by
 rw[show(10000:Nat)=9998+1+1 by rfl]
 unfold Instr.checkKey
 simp only[Sem.run_bind,run_underlying hu,Result.andThen_ok]
 simp only[Std.Legacy.Range.forIn_eq_forIn_range',Std.Legacy.Range.size,Nat.sub_zero,Nat.add_one_sub_one,Nat.div_one]
 have bA:∀ i∈List.range' 0 n,i < ns.length:=fun i hi=>by simp at hi;omega
 generalize List.range' 0 n=is at bA
 induction is with
 | nil=>simp
 | cons j is ih=>
  have hj:=bA j (by simp)
  have ea:(ns.map fun n=>Value.int kk n).toArray[j*P.cellsOf e]?=some (.int kk ns[j]):=by simp[hc,hj]
  have fk:(Instr.checkKey em (9998+1) e (.int kk ns[j])).run P w = .ok () w:=MapKept.run_checkKey (d:= .int kk) (n:=9998) he (by simp[MapKept.IsKey]) em
  simp only[List.forIn_cons,Sem.run_bind,run_sizeOf w hi,Result.andThen_ok,run_part_plain w (MS he) ea,fk,Sem.run_pure]
  exact ih fun i hi=>bA i (by simp[hi])
theorem UI (hE:cp P V.E) {t:TypeId} {n:Nat} {kk:IntKind} {i:TI} (h:tn V.E t=some (n,kk,i)):∃ kt e ie ti,P.underlying t=some (.map kt e)∧P.underlying kt=some (.array n ie)∧P.underlying ie=some (.int kk)∧P.info? ie=some ti∧P.cellsOf ie=1∧V.E e=some i:=by
 unfold tn at h
 split at h
 ·rename_i kt e ht
  split at h
  ·rename_i n' ie i' h1 h2
   split at h
   ·rename_i jx h3
    injection h with h;injection h with e1 e2;injection e2 with e2 e3;subst e1;subst e2;subst e3
    obtain⟨x,z',_,_,_,_,_,_,h7,_⟩:=ga (hE t _ ht)
    obtain⟨ti,z,k1,k2,k3,k4,k5,k6,k7,k8⟩:=ga (hE ie _ h3)
    have hint:=ai6 hE h3
    refine⟨kt,e,ie,ti,?_,Hq hE h1,hint,k1,?_,h2⟩
    ·simp only[kL] at h7
     split at h7
     ·rename_i k' e' he;simp at h7;obtain⟨rfl,rfl⟩:=h7;exact he
     cases h7
    have:P.cellsOf ie=ti.size:=by simp[Program.cellsOf,k1]
    rw[this,k2]
    have hz:=k5
    have ha:=k6
    simp only[TD.agg] at ha
    have hlen:z.cells.toList.length=1:=by cases z<;>simp[oO,Value.cells] at ha ⊢
    obtain⟨q1,_,_⟩:=se ⟨fun _ _=>none,fun _=>none,fun _=>False⟩ _ _ hz
    have e1:z.cells.toList.length=_:=q1
    rw[hlen] at e1
    dsimp only at k8 e1 ⊢
    exact k8.symm.trans e1.symm
   cases h
  cases h
 cases h
theorem aeJ (hE:cp P V.E) (ah:aF w0 I0 w I m L) (hc:fw l L) {t:TypeId} {x k:Value} {tx tk:T} {ok:Bool} (hx:aq I m L x tx) (hk:aq I m L k tk) (ae:(AW V.E t l tx tk ok).ob) :
  (AW V.E t l tx tk ok).bn = .none∧∃ u,(Instr.lookup t x k ok).run P w = .ok u w∧aq I m L u (AW V.E t l tx tk ok).t:=by
 unfold AW at ae ⊢
 split at ae
 ·rename_i n kk i ks vs kd h1 h2
  obtain⟨kt,e,ie,ti,u1,u2,u3,u4,u5,u6⟩:=UI hE h1
  obtain⟨es,s1,s2,r1,r2,r3⟩:=LR ah hc hx h2
  obtain⟨z,z1,z2,z3,z4⟩:=G2 hE u6 w
  split at ae
  ·rename_i oE
   simp only[if_pos oE]
   obtain⟨ns,gO,rfl,rfl⟩:=M4 (cy hk) oE
   have fk:∀ e:Bool,(Instr.checkKey e 10000 kt (.agg (ns.map fun n=>Value.int kk n).toArray)).run P w = .ok () w:=WG u2 u3 u4 u5 ns gO
   have KM:(match P.underlying kt with | some (.array _ _) | some (.struct _)=>true | _=>false)=true:=by simp[u2]
   have bP:∀ r,(Instr.findAsking kt (.agg (ns.map fun n=>Value.int kk n).toArray) es.toList 0).run P w = .ok r w→(Instr.lookup t x (.agg (ns.map fun n=>Value.int kk n).toArray) ok).run P w = .ok (if ok then .tuple #[match r with | some (_,v)=>v | none=>z,.bool r.isSome] else match r with | some (_,v)=>v | none=>z) w:=by
    intro r hr
    have hf:=run_findKey_eq w KM (.agg (ns.map fun n=>Value.int kk n).toArray) es.toList
    rw[hr] at hf
    unfold Instr.lookup
    rcases r3 with ⟨rfl,rfl⟩ | ⟨b,cR,rfl,hh⟩
    ·simp only[Sem.run_bind,run_underlying u1,Result.andThen_ok,Sem.run_pure,fk,hf]
     cases r<;>simp[z1]<;>split<;>simp
    simp only[Sem.run_bind,run_underlying u1,Result.andThen_ok,Sem.run_pure,MapKept.run_getObj_map hh,fk,hf]
    cases r<;>simp[z1]<;>split<;>simp
   rcases I6 (w:=w) u2 u3 u4 u5 ns gO es.toList ks 0 (by simpa using s1) (fun j e d q1 q2=>r1 j e d (by simpa using q1) q2) (by split at ae<;>exact ae) with ⟨q1,q2,_⟩ | ⟨j,e',q1,q2,q3,q4,q5⟩
   ·simp only[q1]
    refine⟨by trivial,_,bP _ q2,?_⟩
    have hz:=X1 (I:=I) z2 z3
    cases ok
    ·exact .d _ _ hz
    exact .d _ _ (.aI _ _ rfl fun i v d hv hd=>by
     rcases i with _ | _ | i
     ·simp at hv hd;subst hv;subst hd;exact hz
     ·simp at hv hd;subst hv;subst hd;exact .bool _
     simp at hv)
   simp only[q1,Nat.zero_add]
   refine⟨by trivial,_,bP _ q5,?_⟩
   have hj:j < vs.length:=by rw[←s2];have:=(List.getElem?_eq_some_iff.1 q2).1;simpa using this
   have hv:=r2 j e' _ (by simpa using q2) (List.getElem?_eq_getElem hj)
   rw[QN (List.getElem?_eq_getElem hj)]
   cases ok
   ·exact .d _ _ hv
   exact .d _ _ (.aI _ _ rfl fun i v d bQ hd=>by
    rcases i with _ | _ | i
    ·simp at bQ hd;subst bQ;subst hd;exact hv
    ·simp at bQ hd;subst bQ;subst hd;exact .bool _
    simp at bQ)
  exact ae.elim
 exact ae.elim
theorem ahI (kk:IntKind) (d:Nat):∀ ns:List Int,Instr.sameBits (d+2) (.agg (ns.map fun n=>Value.int kk n).toArray) (.agg (ns.map fun n=>Value.int kk n).toArray)=true:=by
 intro ns
 simp only[Instr.sameBits,BEq.rfl,Bool.true_and,List.all_eq_true]
 rintro⟨a,b⟩ dg
 have key:∀ l:List Int,(a,b)∈(l.map fun n=>Value.int kk n).zip (l.map fun n=>Value.int kk n)→∃ n,a = .int kk n∧b = .int kk n:=by
  intro l
  induction l with
  | nil=>intro h;simp at h
  | cons x l ih=>
   intro h
   simp only[List.map_cons,List.zip_cons_cons,List.mem_cons,Prod.mk.injEq] at h
   rcases h with ⟨rfl,rfl⟩ | h
   ·exact⟨x,rfl,rfl⟩
   exact ih h
 obtain⟨n,rfl,rfl⟩:=key ns (by simpa using dg)
 simp[Instr.sameBits]
theorem air (kk:IntKind) (ns:List Int) (w:World):(Instr.keyThatStays (.agg (ns.map fun n=>Value.int kk n).toArray) (.agg (ns.map fun n=>Value.int kk n).toArray)).run P w = .ok (.agg (ns.map fun n=>Value.int kk n).toArray) w:=by
 unfold Instr.keyThatStays
 rw[show(10000:Nat)=9998+2 by rfl,ahI kk 9998 ns];rfl
theorem agl (hE:cp P V.E) (ah:aF w0 I0 w I m l) {t:TypeId} {x k v:Value} {tx tk tv:T} (hx:aq I m l x tx) (hk:aq I m l k tk) (hv:aq I m l v tv) (ae:(rG V.E t l tx tk tv).ob) :
  ∃ l' w',(rG V.E t l tx tk tv).bn = .aP l'∧(Instr.mapUpdate t x k v).run P w = .ok () w'∧Le I m l I m l'∧aF w0 I0 w' I m l':=by
 unfold rG at ae ⊢
 split at ae
 ·rename_i n kk i id kd d h1 h4
  have hd:=GQ hv h4
  obtain⟨kt,e,ie,ti,u1,u2,u3,u4,u5,u6⟩:=UI hE h1
  split at ae
  ·rename_i oE
   simp only[if_pos oE]
   have Ac:=cy hk
   obtain⟨ns,gO,rfl,rfl⟩:=M4 Ac oE
   obtain⟨key,iU⟩:∃ key,key=Value.agg (ns.map fun n=>Value.int kk n).toArray:=⟨_,rfl⟩
   split at ae
   ·rename_i ks vs hl
    obtain⟨b,⟨es,cR⟩,q1,q2,q3,s1,s2,r1,r2,bS⟩:=ah.obj id _ hl
    replace q3:w.heap[b]?=some (.map es cR)∧MapKept.Stamped es cR:=q3
    simp only at s1 s2 r1 r2
    have rl:x = .map (some b):=by
     cases hx with
     | map r _ p1 p2=>
      have:=p2 (by unfold isRow;rw[hl];rfl)
      rw[q1] at this;exact this.symm
    subst rl
    have fk:∀ e:Bool,(Instr.checkKey e 10000 kt (.agg (ns.map fun n=>Value.int kk n).toArray)).run P w = .ok () w:=WG u2 u3 u4 u5 ns gO
    have KM:(match P.underlying kt with | some (.array _ _) | some (.struct _)=>true | _=>false)=true:=by simp[u2]
    have xy:=run_findKey_eq w KM (.agg (ns.map fun n=>Value.int kk n).toArray) es.toList
    have c7:=air (P:=P) kk ns w
    have dt:own (m id)=some b:=by rw[q1];rfl
    rcases I6 (w:=w) u2 u3 u4 u5 ns gO es.toList ks 0 (by simpa using s1) (fun j e d q1 q2=>r1 j e d (by simpa using q1) q2) ae with ⟨p1,p2,p6⟩ | ⟨j,e',p1,p2,p3,p4,p5⟩
    ·simp only[p1]
     rw[p2] at xy
     rw[←iU] at Ac fk xy p6 ⊢
     have fY:=MapKept.run_setObj_map (P:=P) (.map (es.push { key:=key,val:=v,born:=cR }) (cR+1)) q3.1
     obtain⟨g1,g2⟩:=MapKept.heap_set (o':= .map (es.push { key:=key,val:=v,born:=cR }) (cR+1)) q3.1
     refine⟨_,{ w with heap:=w.heap.setIfInBounds b (.map (es.push { key:=key,val:=v,born:=cR }) (cR+1)) },rfl,?_,?_,?_⟩
     ·unfold Instr.mapUpdate
      simp only[Sem.run_bind,run_underlying u1,Result.andThen_ok,MapKept.run_getObj_map q3.1,fk,xy,fY]
     ·exact Le.setKind hl rfl rfl (by simp)
     refine ah.sb hl (by simp) dt bS rfl rfl (Le.setKind hl rfl rfl (by simp)) rfl rfl rfl (Nat.le_refl _) (by simp) (fun k hk=>g2 k hk) ?_
     refine⟨b,(es.push { key:=key,val:=v,born:=cR },cR+1),q1,q2,⟨g1,MapKept.stamped_push q3.2 (by simpa using p6)⟩,by simp[s1],by simp[s2],fun i e d he aS=>?_,fun i e d' he aS=>?_,bS⟩
     ·rw[Array.getElem?_push] at he
      split at he
      ·injection he with he;subst he
       rename_i hi;subst hi
       rw[s1,List.getElem?_append_right (Nat.le_refl _)] at aS;simp at aS;subst aS;simpa using Ac
      have hi:i < ks.length:=by have:=(Array.getElem?_eq_some_iff.1 he).1;omega
      rw[List.getElem?_append_left hi] at aS;exact r1 i e d he aS
     rw[Array.getElem?_push] at he
     split at he
     ·injection he with he;subst he
      rename_i hi;subst hi
      rw[s2,List.getElem?_append_right (Nat.le_refl _)] at aS;simp at aS;subst aS;exact hd
     have hi:i < vs.length:=by have:=(Array.getElem?_eq_some_iff.1 he).1;omega
     rw[List.getElem?_append_left hi] at aS;exact r2 i e d' he aS
    simp only[p1,Nat.zero_add]
    rw[Nat.zero_add] at p5
    rw[p5] at xy
    rw[←iU] at Ac fk xy p3 c7 ⊢
    have mR:es[j]?=some e':=by simpa using p2
    have fY:=MapKept.run_setObj_map (P:=P) (.map (es.modify j fun e=>{ e with key:=key,val:=v }) cR) q3.1
    obtain⟨g1,g2⟩:=MapKept.heap_set (o':= .map (es.modify j fun e=>{ e with key:=key,val:=v }) cR) q3.1
    refine⟨_,{ w with heap:=w.heap.setIfInBounds b (.map (es.modify j fun e=>{ e with key:=key,val:=v }) cR) },rfl,?_,Le.setKind hl rfl rfl (by simp),?_⟩
    ·unfold Instr.mapUpdate
     simp only[Sem.run_bind,run_underlying u1,Result.andThen_ok,MapKept.run_getObj_map q3.1,fk,xy,mR,Option.map_some,Option.getD_some,p3,c7,fY]
    refine ah.sb hl (by simp) dt bS rfl rfl (Le.setKind hl rfl rfl (by simp)) rfl rfl rfl (Nat.le_refl _) (by simp) (fun k hk=>g2 k hk) ?_
    refine⟨b,(es.modify j fun e=>{ e with key:=key,val:=v },cR),q1,q2,⟨g1,MapKept.stamped_modify q3.2 j _ (fun _ _=>rfl) (fun x hx hj=>by rw[mR] at hj;injection hj with hj;subst hj;exact p3.symm)⟩,by simp[s1],by simp[s2],fun i e d he aS=>?_,fun i e d' he aS=>?_,bS⟩
    ·rw[Array.getElem?_modify] at he
     split at he
     ·rename_i hi;subst hi
      rw[mR] at he;simp at he;subst he
      rw[p4] at aS;injection aS with aS;subst aS;exact Ac
     exact r1 i e d he aS
    rw[Array.getElem?_modify] at he
    split at he
    ·rename_i hi;subst hi
     rw[mR] at he;simp at he;subst he
     have hj:j < vs.length:=by rw[←s2];exact(Array.getElem?_eq_some_iff.1 mR).1
     rw[List.getElem?_set,if_pos rfl,if_pos hj] at aS
     injection aS with aS;subst aS;exact hd
    rename_i bc
    rw[List.getElem?_set,if_neg bc] at aS;exact r2 i e d' he aS
   exact ae.elim
  exact ae.elim
 exact ae.elim
end
end Go.aj
namespace Go.aj
open Go Go.RowKit
variable [bh]
section
variable {P:Program} {V:Env} {w0 w:World} {I0 I:aw} {m:Nat→Value} {l L:List AO} {nid:Nat} {o:Oper} {ρ:Operand→Value} {ρT:Operand→T}
theorem xm {c:Call} {b:Builtin} (cN:c.callee = .builtin b) (ho:o.op = .call c) {s:Sem Value} (hb:∀ k,builtin b c.argTypes o.type k (c.args.map ρ)=(do pure (.value (←s)))) {u:Value} {w':World} (hs:s.run P w = .ok u w') :
  (execOp ρ o).run P w = .ok (.value u) w':=by
 unfold execOp
 simp only[ho,resolve,cN,Sem.run_bind,Sem.run_pure,Result.andThen_ok,invoke,hb,hs]
theorem Jc {zd:D}:∀ (n j:Nat),(flat (List.replicate n zd))[j]?=if j < n*zd.cells.length then zd.cells[j % zd.cells.length]? else none
 | 0,j=>by simp[flat]
 | n+1,j=>by
  have ih:=Jc (zd:=zd) n (j - zd.cells.length)
  rw[List.replicate_succ,show flat (zd::List.replicate n zd)=zd.cells++flat (List.replicate n zd) by simp[flat],List.getElem?_append]
  by_cases hj:j < zd.cells.length
  ·rw[if_pos hj,if_pos (by rw[Nat.succ_mul];omega),Nat.mod_eq_of_lt hj]
  rw[if_neg hj,ih,Nat.succ_mul,←Nat.mod_eq_sub_mod (by omega)]
  by_cases h2:j < n*zd.cells.length+zd.cells.length
  ·rw[if_pos h2,if_pos (by omega)]
  rw[if_neg h2,if_neg (by omega)]
theorem X0 {z:Value} {i:TI} (h1:km z.cells.toList i.zero=true) (h2:oO z=i.desc.agg):(fR i.desc.agg i.zero).cells=i.zero∧z.cells.size=i.zero.length∧∀ (j:Nat) v d,z.cells[j]?=some v→i.zero[j]?=some d→Rd I v d∧d.one=true∧v.oneCell'=true:=by
 have hlen:∀ {vs:List Value} {ds:List D},km vs ds=true→vs.length=ds.length:=by
  intro vs
  induction vs with
  | nil=>intro ds h;cases ds with | nil=>rfl | cons=>simp[km] at h
  | cons v vs ih=>intro ds h;cases ds with
   | nil=>simp[km] at h
   | cons d ds=>simp only[km,Bool.and_eq_true] at h;simp[ih h.2]
 have hl:=hlen h1
 have gx:∀ (j:Nat) v d,z.cells[j]?=some v→i.zero[j]?=some d→Rd I v d∧d.one=true∧v.oneCell'=true:=fun j v d hv hd=>by
  have:=NV I (Cy h1 (by simpa using hv) hd)
  exact⟨this.1,this.2,this.1.one this.2⟩
 refine⟨?_,by simpa using hl,gx⟩
 unfold fR
 by_cases ha:i.desc.agg=true
 ·rw[if_pos ha];rfl
 rw[if_neg ha]
 have hz:z.cells = #[z]:=by
  have:oO z=false:=by rw[h2];simpa using ha
  cases z<;>first | rfl | (simp[oO] at this)
 rw[hz] at hl
 match vq:i.zero,hl with
 | [d],_=>
  have jr:=(gx 0 z d (by rw[hz];rfl) (by rw[vq];rfl)).2.1
  cases d<;>first | rfl | (simp[D.one] at jr)
theorem aiE (hE:cp P V.E) (ah:aF w0 I0 w I m l) {t e:TypeId} {sz bt:Nat} {z:List D} (hs:V.E t=some ⟨sz,bt,z,.slice e⟩) {v:Value} {id:Nat} {lo hi:Option Operand} (hx:aq I m l v (.row id))
  (fm:∀ a,lo=some a→aq I m l (ρ a) (ρT a)) (lH:∀ a,hi=some a→aq I m l (ρ a) (ρT a)) (ae:(pg V.E e l id (lo.map ρT) (hi.map ρT)).ob) :
  (pg V.E e l id (lo.map ρT) (hi.map ρT)).bn = .aP l∧∃ u,(Instr.sliceAt t v (lo.map ρ) (hi.map ρ) none).run P w = .ok u w∧aq I m l u (pg V.E e l id (lo.map ρT) (hi.map ρT)).t:=by
 have hu:=mG hE hs
 have c8:P.underlying t=some (.slice (P.elem t)):=by simp[Program.elem,hu]
 have he:P.elem t=e:=by simp[Program.elem,hu]
 have hint:∀ {a:T} {k:IntKind} {n:Int} {v:Value},eg a=some (k,n)→aq I m l v a→v = .int k n:=by
  intro a k n v hn hr
  unfold eg at hn
  split at hn
  ·simp at hn;obtain⟨rfl,rfl⟩:=hn;have:=cy hr;cases this;rfl
  cases hn
 unfold pg at ae ⊢
 split at ae
 ·rename_i e' size els hl
  split at ae
  ·rename_i aK
   rw[if_pos aK]
   obtain⟨jv,ve⟩:=aK
   obtain⟨ie,fV⟩:=Option.isSome_iff_exists.1 ve
   have KR:ie.size=size:=by rw[jv];simp[bq,fV]
   have rh:(sizeOf (P.elem t)).run P w = .ok size w:=by rw[he,mz hE fV,KR]
   have jV:id < l.length:=(List.getElem?_eq_some_iff.1 hl).1
   obtain⟨A,n,c,rfl,hm⟩:∃ A n c,v = .slice A n c∧m id = .slice A n c:=by
    cases hx with
    | row A n c _ q1 q2=>exact⟨A,n,c,rfl,q2 (by unfold isRow;rw[hl];rfl)⟩
   obtain⟨xs,k1,_⟩:=ah.obj id _ hl
   rw[hm] at k1
   have fC:n=els.length∧n≤c:=by
    rcases k1.2 with ⟨h1,h2⟩ | ⟨g,cap,cur,h1,_,_,h2,_⟩
    ·injection h1 with _ h3 h4;subst h3;subst h4;exact⟨h2.symm,Nat.le_refl _⟩
    injection h1 with _ h3 h4;subst h3;subst h4;exact⟨rfl,h2⟩
   obtain⟨rfl,fC⟩:=fC
   have ep:∀ a b,(Instr.sliceAt t (.slice A els.length c) a b none).run P w=(Instr.slice t (.slice A els.length c) a b none).run P w:=fun a b=>run_sliceAt_slice w t _ a b none c8
   have fin:∀ lo hi:Nat,lo≤hi→hi≤els.length→aq I m l (sliced A lo hi c size) (.sub id lo hi):=fun lo hi h1 h2=>
    .sub _ _ _ _ _ _ jV fun e2 ahX ajA dQ=>by
     rw[hl] at dQ
     have:ahX=size:=by
      rcases dQ with h | h
      ·injection h with h;injection h with _ h _;exact h.symm
      injection h with h;cases h
     subst this
     exact⟨A,_,c,hm,h1,h2,rfl⟩
   cases lo with
   | none=>
    cases hi with
    | none=>exact ae.elim
    | some b=>
     simp only[Option.map_none,Option.map_some] at ae ⊢
     split at ae
     ·rename_i k h hb
      have hv:=hint hb (lH b rfl)
      simp only
      refine⟨trivial,_,by rw[ep,hv,run_slice_h w t A _ c c8 _ _ ae.1 (by omega),rh];rfl,?_⟩
      exact fin 0 h.toNat (Nat.zero_le _) (by omega)
     exact ae.elim
   | some a=>
    cases hi with
    | some b=>exact ae.elim
    | none=>
     simp only[Option.map_none,Option.map_some] at ae ⊢
     split at ae
     ·rename_i k h ha
      have hv:=hint ha (fm a rfl)
      simp only
      have:=run_slice_l w t A els.length c c8 k h ae.1 (by omega)
      refine⟨trivial,_,by rw[ep,hv,this,rh];rfl,?_⟩
      exact fin h.toNat els.length (by omega) (Nat.le_refl _)
     exact ae.elim
  exact ae.elim
 exact ae.elim
theorem Ns {E:cA} {e:TypeId} {l:List AO} {id:Nat} {lo hi:Option T}:(pg E e l id lo hi).bn = .aP l∨pg E e l id lo hi = .bad:=by
 unfold pg
 repeat' split
 all_goals simp
theorem Hc {E:cA} {e:TypeId} {l:List AO} {id:Nat} {lo hi:Option T} {mx:T}:(pf E e l id lo hi mx).bn = .aP l∨pf E e l id lo hi mx = .bad:=by
 unfold pf
 repeat' split
 all_goals simp
theorem aiB (hE:cp P V.E) (ah:aF w0 I0 w I m l) {t e:TypeId} {sz bt:Nat} {z:List D} (hs:V.E t=some ⟨sz,bt,z,.slice e⟩) {v:Value} {id:Nat} {lo hi:Option Operand} {mx:Operand} (hx:aq I m l v (.row id))
  (fm:∀ a,lo=some a→aq I m l (ρ a) (ρT a)) (lH:∀ a,hi=some a→aq I m l (ρ a) (ρT a)) (pR:aq I m l (ρ mx) (ρT mx)) (ae:(pf V.E e l id (lo.map ρT) (hi.map ρT) (ρT mx)).ob) :
  (pf V.E e l id (lo.map ρT) (hi.map ρT) (ρT mx)).bn = .aP l∧(pf V.E e l id (lo.map ρT) (hi.map ρT) (ρT mx)).t = .undef∧∃ u,(Instr.sliceAt t v (lo.map ρ) (hi.map ρ) (some (ρ mx))).run P w = .ok u w:=by
 have hu:=mG hE hs
 have c8:P.underlying t=some (.slice (P.elem t)):=by simp[Program.elem,hu]
 have he:P.elem t=e:=by simp[Program.elem,hu]
 have hint:∀ {a:T} {k:IntKind} {n:Int} {v:Value},eg a=some (k,n)→aq I m l v a→v = .int k n:=by
  intro a k n v hn hr
  unfold eg at hn
  split at hn
  ·simp at hn;obtain⟨rfl,rfl⟩:=hn;have:=cy hr;cases this;rfl
  cases hn
 cases lo with
 | none=>unfold pf at ae;simp only[Option.map_none] at ae;split at ae<;>simp_all [R.bad]
 | some a=>
 cases hi with
 | none=>unfold pf at ae;simp only[Option.map_none] at ae;split at ae<;>simp_all [R.bad]
 | some b=>
 unfold pf at ae ⊢
 simp only[Option.map_some] at ae ⊢
 split at ae
 ·rename_i e' size els a' b' hl kM bI
  injection kM with kM;injection bI with bI;subst kM;subst bI
  split at ae
  ·rename_i k1 n k2 h k3 q hn hh hq
   split at ae
   ·rename_i aK
    simp only[hn,hh,hq,if_pos aK]
    refine⟨trivial,trivial,?_⟩
    obtain⟨jv,ve⟩:=aK
    obtain⟨ie,fV⟩:=Option.isSome_iff_exists.1 ve
    have rh:(sizeOf (P.elem t)).run P w = .ok ie.size w:=by rw[he,mz hE fV]
    obtain⟨A,n0,c,rfl,hm⟩:∃ A n c,v = .slice A n c∧m id = .slice A n c:=by
     cases hx with
     | row A n c _ q1 q2=>exact⟨A,n,c,rfl,q2 (by unfold isRow;rw[hl];rfl)⟩
    obtain⟨xs,k1,_⟩:=ah.obj id _ hl
    rw[hm] at k1
    have fC:n0=els.length∧n0≤c:=by
     rcases k1.2 with ⟨h1,h2⟩ | ⟨g,cap,cur,h1,_,_,h2,_⟩
     ·injection h1 with _ h3 h4;subst h3;subst h4;exact⟨h2.symm,Nat.le_refl _⟩
     injection h1 with _ h3 h4;subst h3;subst h4;exact⟨rfl,h2⟩
    obtain⟨rfl,fC⟩:=fC
    have v1:=hint hn (fm a rfl)
    have v2:=hint hh (lH b rfl)
    have v3:=hint hq pR
    refine⟨_,by rw[run_sliceAt_slice w t _ _ _ _ c8,v1,v2,v3,run_slice_lhm w t A _ c c8 _ _ _ n h q ae.1 ae.2.1 ae.2.2.1 (by omega),rh];rfl⟩
   exact ae.elim
  exact ae.elim
 exact ae.elim
theorem aeU {E:cA} {t:TypeId} {nid:Nat} {a b:T} (ae:(rE E t l nid a b).ob):∃ l',(rE E t l nid a b).bn = .aP l':=by
 revert ae
 unfold rE
 repeat' split
 all_goals simp[R.bad]
theorem aeV (hE:cp P V.E) (ah:aF w0 I0 w I m l) {t:TypeId} {va vb:Value} {a b:T} (ha:aq I m l va a) (hb:aq I m l vb b) (ae:(rE V.E t l l.length a b).ob) :
  ∃ l' w' v m',(rE V.E t l l.length a b).bn = .aP l'∧(Instr.makeSlice t va vb).run P w = .ok v w'∧Le I m l I m' l'∧aF w0 I0 w' I m' l'∧aq I m' l' v (rE V.E t l l.length a b).t:=by
 have hint:∀ {a:T} {k:IntKind} {n:Int} {v:Value},eg a=some (k,n)→aq I m l v a→v = .int k n:=by
  intro a k n v hn hr
  unfold eg at hn
  split at hn
  ·simp at hn;obtain⟨rfl,rfl⟩:=hn;have:=cy hr;cases this;rfl
  cases hn
 unfold rE at ae ⊢
 split at ae
 ·rename_i e ka n kb c hs hia hib
  have hu:=mG hE hs
  split at ae
  ·rename_i i hi
   split at ae
   ·rename_i bO
    simp only[hi,if_pos bO]
    obtain⟨h0,rfl,sJ,pR⟩:=ae
    have kT:=hint hia ha
    have En:=hint hib hb
    obtain⟨N,rfl⟩:=Int.eq_ofNat_of_zero_le h0
    subst kT;subst En
    obtain⟨x,z,q1,q2,q3,q4,q5,q6,q7,q8⟩:=ga (hE e i hi)
    obtain⟨d1,d2,d3⟩:=X0 (I:=I) q5 q6
    have kV:z.cells.size=i.size:=by rw[d2,q8]
    have hbn:x.bytes*N≤281474976710656:=by
     rw[q3,Nat.mul_comm]
     have:((N*i.bytes:Nat):Int)≤140737488355328:=by rw[Int.natCast_mul];exact sJ
     omega
    obtain⟨w',h1,h2,h3⟩:=run_make_full (P:=P) w w0.heap.size t e x z i.size hu q1 q4 q2 ka kb N hbn (by unfold maxLen;omega) ah.below.size
    have abX:(List.replicate N (fR i.desc.agg i.zero)).length=N:=by simp
    obtain⟨r1,r2,r3⟩:=ah.BX (w':=w') (v:= .slice (some ⟨w.heap.size,0,none⟩) N N) (row:=none) (lo:=l) (e:=e) (size:=i.size) (els:=List.replicate N (fR i.desc.agg i.zero)) rfl (fun k a ha=> .inr ha) (fun _ _ _ h=>h)
     h3 (jG _ _ _ _ _ h1) (fun b hb=>by cases hb) (fun b hb=>by cases hb)
     (
      fun b hb=>by
      simp[own] at hb;subst hb
      refine⟨ah.below.size,ah.sat.eZ (Nat.le_refl _),fun k hk he=>?_⟩
      obtain⟨a,ha,jo⟩:=bN.1 hk
      have:=((ah.obj k a ha).lt jo he).1;omega)
     (
      by
       rw[abX];exact h2) (fun d hd=>by
      have:=List.eq_of_mem_replicate hd
      subst this
      rw[d1]
      refine⟨q8,fun x hx=>?_⟩
      obtain⟨j,hj,rfl⟩:=List.mem_iff_getElem.1 hx
      exact(d3 j _ _ (Array.getElem?_eq_getElem (by rw[d2];exact hj)) (List.getElem?_eq_getElem hj)).2.1) (fun j u y hu hy=>by
      rw[Jc,d1,q8] at hy
      split at hy
      ·rename_i hj
       have hm:j % i.size < z.cells.size:=by rw[kV];exact Nat.mod_lt _ bO
       have c8:u=z.cells[j % i.size]:=by
        simp[madeCells,kV,hj] at hu
        rw[getElem!_pos z.cells _ hm] at hu
        exact hu.symm
       subst c8
       exact(d3 _ _ y (Array.getElem?_eq_getElem hm) hy).1
      cases hy) ⟨_,_,_,rfl⟩
    exact⟨_,w',_,_,rfl,h1,r1,r2,r3⟩
   exact ae.elim
  exact ae.elim
 exact ae.elim
theorem Zr {E:cA} {t:TypeId} {x:T} (ae:(qJ E t l x).ob):∃ l',(qJ E t l x).bn = .aP l':=by
 revert ae
 unfold qJ
 repeat' split
 all_goals simp[R.bad]
theorem Zs (hE:cp P V.E) (ah:aF w0 I0 w I m l) {t ty:TypeId} {v:Value} {x:T} (hx:aq I m l v x) (ae:(qJ V.E t l x).ob) :
  (qJ V.E t l x).t = .d (.aI [])∧∃ l' w',(qJ V.E t l x).bn = .aP l'∧(Builtin.clear_ #[t] ty #[v]).run P w = .ok (.tuple #[]) w'∧Le I m l I m l'∧aF w0 I0 w' I m l':=by
 unfold qJ at ae ⊢
 split at ae
 ·rename_i e id lo hi hs
  have hu:=mG hE hs
  split at ae
  ·rename_i i e' size els dN hl
   split at ae
   ·rename_i hc
    simp only[dN,hl,if_pos hc]
    obtain⟨aK,rfl,bO⟩:=hc
    subst aK
    refine⟨trivial,?_⟩
    obtain⟨A,n,c,rfl,A0,n0,c0,hm,h1,h2,h3⟩:∃ A n c,v = .slice A n c∧∃ A0 n0 c0,m id = .slice A0 n0 c0∧lo≤els.length∧els.length≤n0∧Value.slice A n c=sliced A0 lo els.length c0 i.size:=by
     cases hx with
     | sub A n c _ _ _ q1 q2=>exact⟨A,n,c,rfl,q2 e' i.size els (.inl hl)⟩
    obtain⟨xs,k1,k2,k3,k4⟩:=ah.obj id _ hl
    rw[hm] at k1
    obtain⟨j1,pK⟩:=k1
    injection h3 with hA hn eU
    have D9:n0=els.length:=by
     rcases pK with ⟨h1,h2⟩ | ⟨g,cap,cur,h1,_⟩
     ·injection h1 with _ h3 h4;omega
     injection h1
    subst D9
    rcases Nat.eq_or_lt_of_le h1 with fm | fm
    ·
     have Af:n=0:=by omega
     subst Af
     have ml:l.set id (.row e' i.size (els.take lo++List.replicate (els.length - lo) (fR i.desc.agg i.zero)))=l:=by
      rw[show els.length - lo=0 by omega,fm]
      simp
      apply List.ext_getElem?
      intro k
      rw[List.getElem?_set]
      split
      ·rename_i hk;subst hk;rw[hl];simp;exact(List.getElem?_eq_some_iff.1 hl).1
      rfl
     refine⟨_,w,rfl,?_,?_,?_⟩
     ·cases A<;>simp[Builtin.clear_,run_underlying hu]
     ·rw[ml];exact .refl ..
     rw[ml];exact ah
    rcases pK with ⟨h1,h2⟩ | ⟨g,cap,cur,hv,hb,hg,fC,nH,aR,nS⟩
    ·omega
    injection hv with bX _ vk
    subst vk
    subst bX
    have DL:A=some ⟨g,lo*i.size,none⟩:=by rw[hA,if_neg (by omega)];simp[Addr.add_lit]
    obtain⟨m',rfl⟩:∃ m',n=m'+1:=⟨n - 1,by omega⟩
    obtain⟨zv,z1,z2,z3,z4⟩:=G2 hE dN w
    obtain⟨d1,d2,d3⟩:=X0 (I:=I) z2 z3
    have kV:zv.cells.size=i.size:=by rw[d2,z4]
    have vo:(Builtin.zeroCells zv.cells (m'+1)).toList.length=(els.length - lo)*i.size:=by rw[Array.length_toList,size_zeroCells,kV,hn]
    have S9:∀ (j:Nat),j < (els.length - lo)*i.size→(Builtin.zeroCells zv.cells (m'+1)).toList[j]?=zv.cells[j % i.size]?:=fun j hj=>by
     have:j % i.size < zv.cells.size:=by rw[kV];exact Nat.mod_lt _ bO
     simp[Builtin.zeroCells,kV,hn,hj]
     rw[Array.getElem?_eq_getElem this]
     exact congrArg some (getElem!_pos zv.cells _ this)
    have jr:∀ u∈(Builtin.zeroCells zv.cells (m'+1)).toList,u.oneCell'=true:=fun u c8=>by
     obtain⟨j,hj,rfl⟩:=List.mem_iff_getElem.1 c8
     rw[vo] at hj
     have hg:=S9 j hj
     rw[List.getElem?_eq_getElem (by rw[vo];exact hj)] at hg
     have hm:j % i.size < i.zero.length:=by rw[z4];exact Nat.mod_lt _ bO
     exact(d3 _ _ i.zero[j % i.size] hg.symm (List.getElem?_eq_getElem hm)).2.2
    have hle:(els.length - lo)*i.size+lo*i.size=els.length*i.size:=by rw[←Nat.add_mul];congr 1;omega
    have Ae:els.length*i.size≤cur.size:=by rw[aR];exact Nat.mul_le_mul_right _ fC
    have c7:=run_storeCells_at P g (lo*i.size) e' (Builtin.zeroCells zv.cells (m'+1)).toList 0 cur w hg (by rw[vo];omega) jr
    simp only[Nat.add_zero] at c7
    generalize hzc:(Builtin.zeroCells zv.cells (m'+1)).toList=zc at *
    rw[vo] at c7
    generalize fo:(cur.toList.take (lo*i.size)++zc++cur.toList.drop (lo*i.size+(els.length - lo)*i.size)).toArray=new at c7
    have iY:new.toList=cur.toList.take (lo*i.size)++zc++cur.toList.drop (lo*i.size+(els.length - lo)*i.size):=by subst fo;simp
    have gO:new.size=cur.size:=by
     rw[←Array.length_toList,iY]
     simp only[List.length_append,List.length_take,List.length_drop,Array.length_toList,vo]
     omega
    have vm:new.toList.take (els.length*i.size)=xs.take (lo*i.size)++zc:=by
     rw[iY,←nS,Nu _ _ _ _ _ (by omega) (by rw[Array.length_toList];exact Ae) vo]
     rw[List.drop_of_length_le (by rw[List.length_take];omega)]
     simp
    have D5:(els.take lo++List.replicate (els.length - lo) (fR i.desc.agg i.zero)).length=els.length:=by simp;omega
    obtain⟨t1,t2⟩:=ah.Hl (n:=els.length) (c:=c0) (cur:=cur) (new:=new) (els':=els.take lo++List.replicate (els.length - lo) (fR i.desc.agg i.zero)) (xs:=xs.take (lo*i.size)++zc) hl hm hg
     ⟨by rw[D5];simp only[List.length_append,List.length_take,j1,vo];omega,.inr ⟨g,c0,new,by rw[D5],hb,setRow_heap w g cur new e' (0,0) hg,by rw[D5];exact fC,nH,by rw[gO,aR],by rw[D5];exact vm⟩⟩
     (
      fun d hd=>by
      rcases List.mem_append.1 hd with hd | hd
      ·exact k2 d (List.mem_of_mem_take hd)
      have:=List.eq_of_mem_replicate hd
      subst this
      rw[d1]
      refine⟨z4,fun x hx=>?_⟩
      obtain⟨j,hj,rfl⟩:=List.mem_iff_getElem.1 hx
      have il:j < zv.cells.size:=by rw[d2];exact hj
      exact(d3 j _ _ (Array.getElem?_eq_getElem il) (List.getElem?_eq_getElem hj)).2.1)
     (
      fun j u y hu hy=>by
      have cG:(flat els).length=els.length*i.size:=jm els (fun d hd=>(k2 d hd).1)
      rw[Jb,Rk els (fun d hd=>(k2 d hd).1),List.getElem?_append] at hy
      rw[List.getElem?_append] at hu
      have l1:(xs.take (lo*i.size)).length=lo*i.size:=by rw[List.length_take];omega
      have l2:((flat els).take (lo*i.size)).length=lo*i.size:=by rw[List.length_take];omega
      rw[l1] at hu;rw[l2] at hy
      by_cases hj:j < lo*i.size
      ·rw[if_pos hj] at hu hy
       rw[List.getElem?_take,if_pos hj] at hu hy
       exact k3 j u y hu hy
      rw[if_neg hj] at hu hy
      rw[Jc,d1,z4] at hy
      split at hy
      ·rename_i pM
       rw[S9 _ pM] at hu
       exact(d3 _ u y hu hy).1
      cases hy)
    refine⟨_,_,rfl,?_,t1,t2⟩
    rw[DL]
    simp only[Builtin.clear_,List.getElem?_toArray,List.getElem?_cons_zero]
    simp[run_underlying hu,z1,hzc,c7]
   exact ae.elim
  exact ae.elim
 exact ae.elim
theorem ags (hE:cp P V.E) (ah:aF w0 I0 w I m L) {t:TypeId} {mm k x:Operand} (ho:o.op = .mapUpdate t mm k x∨o.op = .insert t mm k x) (hr:∀ x∈o.op.operands,aq I m L (ρ x) (ρT x)) (ae:(qd V.E t l (ρT mm) (ρT k) (ρT x)).ob) :
  bW P w0 I0 o ρ w I m l L nid (qd V.E t l (ρT mm) (ρT k) (ρT x)):=by
 have hm:=hr mm (by rcases ho with ho | ho<;>simp[ho,Op.operands])
 have hk:=hr k (by rcases ho with ho | ho<;>simp[ho,Op.operands])
 have hx:=hr x (by rcases ho with ho | ho<;>simp[ho,Op.operands])
 have dc:∃ l',(qd V.E t l (ρT mm) (ρT k) (ρT x)).bn = .aP l'∧(qd V.E t l (ρT mm) (ρT k) (ρT x)).t = .undef:=by
  generalize ρT mm=ts at *;generalize ρT k=tk at *;generalize ρT x=tx at *
  unfold qd at ae ⊢
  repeat' split at ae
  all_goals first | exact ae.elim | skip
  all_goals simp only[*]
  all_goals exact⟨_,rfl,rfl⟩
 obtain⟨l',fB,ht⟩:=dc
 unfold bW
 rw[fB]
 rintro rfl hn
 obtain⟨kp,w',h1,h2,h3,h4⟩:=agq hE ah hm hk hx ae
 rw[fB] at h1;injection h1 with h1;subst h1
 have hex:(execOp ρ o).run P w = .ok .skip w':=by unfold execOp;rcases ho with ho | ho<;>simp[ho,h2]
 simp only[hex,cz]
 exact⟨I,m,h3,h4,by rw[ht];exact .undef _⟩
theorem agt (hE:cp P V.E) (ah:aF w0 I0 w I m L) {t:TypeId} {mm k x:Operand} (ho:o.op = .mapUpdate t mm k x∨o.op = .insert t mm k x) (hr:∀ x∈o.op.operands,aq I m L (ρ x) (ρT x)) (ae:(rG V.E t l (ρT mm) (ρT k) (ρT x)).ob) :
  bW P w0 I0 o ρ w I m l L nid (rG V.E t l (ρT mm) (ρT k) (ρT x)):=by
 have hm:=hr mm (by rcases ho with ho | ho<;>simp[ho,Op.operands])
 have hk:=hr k (by rcases ho with ho | ho<;>simp[ho,Op.operands])
 have hx:=hr x (by rcases ho with ho | ho<;>simp[ho,Op.operands])
 have dc:∃ l',(rG V.E t l (ρT mm) (ρT k) (ρT x)).bn = .aP l'∧(rG V.E t l (ρT mm) (ρT k) (ρT x)).t = .undef:=by
  generalize ρT mm=ts at *;generalize ρT k=tk at *;generalize ρT x=tx at *
  unfold rG at ae ⊢
  repeat' split at ae
  all_goals first | exact ae.elim | skip
  all_goals simp only[*]
  all_goals exact⟨_,rfl,rfl⟩
 obtain⟨l',fB,ht⟩:=dc
 unfold bW
 rw[fB]
 rintro rfl hn
 obtain⟨kp,w',h1,h2,h3,h4⟩:=agl hE ah hm hk hx ae
 rw[fB] at h1;injection h1 with h1;subst h1
 have hex:(execOp ρ o).run P w = .ok .skip w':=by unfold execOp;rcases ho with ho | ho<;>simp[ho,h2]
 simp only[hex,cz]
 exact⟨I,m,h3,h4,by rw[ht];exact .undef _⟩
theorem VO (hE:cp P V.E) (ah:aF w0 I0 w I m L) {t:TypeId} {mm k x:Operand} (ho:o.op = .mapUpdate t mm k x∨o.op = .insert t mm k x) (hr:∀ x∈o.op.operands,aq I m L (ρ x) (ρT x)) (ae:(yv V.E t l (ρT mm) (ρT k) (ρT x)).ob) :
  bW P w0 I0 o ρ w I m l L nid (yv V.E t l (ρT mm) (ρT k) (ρT x)):=by
 unfold yv at ae ⊢
 split
 ·rename_i h;rw[if_pos h] at ae;exact agt hE ah ho hr ae
 rename_i h;rw[if_neg h] at ae;exact ags hE ah ho hr ae
theorem aeK (hE:cp P V.E) (ah:aF w0 I0 w I m L) (hc:fw l L) {t:TypeId} {x k:Value} {tx tk:T} {ok:Bool} (hx:aq I m L x tx) (hk:aq I m L k tk) (ae:(vF V.E t l tx tk ok).ob) :
  (vF V.E t l tx tk ok).bn = .none∧∃ u,(Instr.lookup t x k ok).run P w = .ok u w∧aq I m L u (vF V.E t l tx tk ok).t:=by
 unfold vF at ae ⊢
 split
 ·rename_i h;rw[if_pos h] at ae;exact aeJ hE ah hc hx hk ae
 rename_i h;rw[if_neg h] at ae;exact look_ok hE ah hc hx hk ae
theorem qO (hV:dI P V) (ah:aF w0 I0 w I m L) (hc:fw l L) (hr:∀ x∈o.op.operands,aq I m L (ρ x) (ρT x)) (ae:(evalOp V ρT l nid o).ob):bW P w0 I0 o ρ w I m l L nid (evalOp V ρT l nid o):=by
 unfold evalOp at ae ⊢
 split at ae
 ·
  rename_i x ho
  exact bW.val ah rfl (u:=ρ x) (by unfold execOp;simp[ho]) (Hp (hr x (by simp[ho,Op.operands])))
 ·
  rename_i x ho
  exact bW.val ah rfl (u:=ρ x) (by unfold execOp;simp[ho]) (Hp (hr x (by simp[ho,Op.operands])))
 ·
  rename_i c a b ho
  exact MR ah ho hr ae
 ·
  rename_i e x ho
  exact YG ah ho (hr x (by simp[ho,Op.operands])) ae
 ·
  rename_i e ho
  split at ae
  ·rename_i i hi
   try simp only[hi]
   exact Ye hV.E ah ho hi
  exact ae.elim
 ·
  rename_i t a ho
  obtain⟨h1,u,h2,h3⟩:=Uw hV.E ah hc (ND (hr a (by simp[ho,Op.operands]))) ae
  exact bW.val ah h1 (by unfold execOp;simp[ho,h2]) h3
 ·
  rename_i t a x ho
  split at ae
  ·rename_i hn
   simp only[if_pos hn]
   have ha:=hr a (by simp[ho,Op.operands])
   have hx:=hr x (by simp[ho,Op.operands])
   generalize hta:ρT a=ta at *
   unfold tU at ae ⊢
   split at ae
   ·rename_i id off y
    split at ae
    ·rename_i t' cs hl
     split at ae
     ·rename_i hle
      simp only[if_pos hle]
      rintro rfl mi
      generalize kT:ρ a=va at ha
      cases ha with
      | ptr _ b _ q1 q2=>
       obtain⟨w',h1,h2⟩:=Np hV.E ah hl q2 hx ae hn.1 (by omega) hle
       have hex:(execOp ρ o).run P w = .ok .skip w':=by unfold execOp;simp[ho,kT,h1]
       simp only[hex,cz]
       exact⟨I,m,Le.W0 hl,h2,.undef _⟩
     exact ae.elim
    exact ae.elim
   ·rename_i id k y DU
    split at ae
    ·rename_i e' size els hl
     split at ae
     ·rename_i aK
      simp only[if_pos aK]
      rw[DU] at hx hn
      obtain⟨jR,jS,uQ⟩:=ae
      rintro rfl mi
      generalize kT:ρ a=va at ha
      cases ha with
      | bf ad _ _ _ q1 q2=>
       obtain⟨w',h1,h2,h3⟩:=ahC (ty:=t) hV.E ah hl (.bf ad id k 0 q1 q2) (cy hx) jR jS uQ (by simpa [bu] using hn.1) (by have:=hn.1;simp[bu] at this;omega)
       have hex:(execOp ρ o).run P w = .ok .skip w':=by unfold execOp;simp[ho,kT,h1]
       simp only[hex,cz]
       exact⟨I,m,h2,h3,.undef _⟩
     rename_i aK
     simp only[if_neg aK]
     split at ae
     ·rename_i cs aR
      rw[DU] at hx hn
      obtain⟨jR,jS,uQ⟩:=ae
      rintro rfl mi
      generalize kT:ρ a=va at ha
      have eV:els[k]?=some (.agg cs):=by
       unfold fK at aR
       rw[List.getElem?_eq_getElem uQ] at aR ⊢
       simp at aR;rw[aR]
      cases ha with
      | bf ad _ _ _ q1 q2=>
       obtain⟨w',h1,h2,h3⟩:=Wz (ty:=t) hV.E ah hl (.bf ad id k 0 q1 q2) (cy hx) eV jR jS uQ (by simpa [bu] using hn.1) (by have:=hn.1;simp[bu] at this;omega)
       have hex:(execOp ρ o).run P w = .ok .skip w':=by unfold execOp;simp[ho,kT,h1]
       simp only[hex,cz]
       exact⟨I,m,h2,h3,.undef _⟩
     exact ae.elim
    exact ae.elim
   ·rename_i id k off y DU
    split at ae
    ·rename_i e' size els hl
     split at ae
     ·rename_i cs aR
      rw[DU] at hx hn
      obtain⟨jR,jS,uQ⟩:=ae
      rintro rfl mi
      generalize kT:ρ a=va at ha
      have eV:els[k]?=some (.agg cs):=by
       unfold fK at aR
       rw[List.getElem?_eq_getElem uQ] at aR ⊢
       simp at aR;rw[aR]
      cases ha with
      | bf ad _ _ _ q1 q2=>
       obtain⟨w',h1,h2,h3⟩:=Wz (ty:=t) hV.E ah hl (.bf ad id k (off+1) q1 q2) (cy hx) eV jR jS uQ (by simpa [bu] using hn.1) (by have:=hn.1;simp[bu] at this;omega)
       have hex:(execOp ρ o).run P w = .ok .skip w':=by unfold execOp;simp[ho,kT,h1]
       simp only[hex,cz]
       exact⟨I,m,h2,h3,.undef _⟩
     exact ae.elim
    exact ae.elim
   exact ae.elim
  exact ae.elim
 ·
  rename_i s x f ho
  obtain⟨h1,u,h2,h3⟩:=aaz (w:=w) hV.E (ND (hr x (by simp[ho,Op.operands]))) ae
  exact bW.val ah h1 (by unfold execOp;simp[ho,h2]) h3
 ·
  rename_i s x f ho
  obtain⟨h1,u,h2,h3⟩:=aax (w:=w) hV.E (hr x (by simp[ho,Op.operands])) ae
  exact bW.val ah h1 (by unfold execOp;simp[ho,h2]) h3
 ·
  rename_i op ty x y t' ho
  have hx:=hr x (by simp[ho,Op.operands])
  have hy:=hr y (by simp[ho,Op.operands])
  split at ae
  ·rename_i a b h1 h2
   rw[h1] at hx;rw[h2] at hy
   unfold oV at ae ⊢
   split at ae
   ·rename_i r ob hb
    obtain⟨z,h3,h4⟩:=YA (w:=w) (x:=x) (y:=y) hV.eq (cy hx) (cy hy) hb ae
    try simp only[h1,h2,hb]
    exact bW.val ah rfl (by unfold execOp;simp only[ho,Sem.run_bind] at h3 ⊢;rw[h3];rfl) (.d _ _ h4)
   exact ae.elim
  exact ae.elim
 ·
  rename_i op ty x ho
  have hx:=hr x (by simp[ho,Op.operands])
  split at ae
  ·rename_i a h1
   rw[h1] at hx
   unfold oV at ae ⊢
   split at ae
   ·rename_i r ob hb
    obtain⟨z,h3,h4⟩:=ai3 (P:=P) (w:=w) (cy hx) hb ae
    try simp only[h1,hb]
    exact bW.val ah rfl (by unfold execOp;simp[ho,h3]) (.d _ _ h4)
   exact ae.elim
  exact ae.elim
 ·
  rename_i t x i ho
  obtain⟨h1,u,h2,h3⟩:=acu hV.E ah hc (ND (hr x (by simp[ho,Op.operands]))) (hr i (by simp[ho,Op.operands])) ae
  exact bW.val ah h1 (by unfold execOp;simp[ho,h2]) h3
 ·
  rename_i t x lo hi ho
  have hx:=hr x (by simp[ho,Op.operands])
  split at ae
  ·rename_i e size els hs vl
   rw[vl] at hx
   split at ae
   ·rename_i aK
    simp only[if_pos aK]
    obtain⟨h1,u,h2,h3⟩:=W5 (w:=w) (lo:=lo) (hi:=hi) (ρ:=ρ) (ρT:=ρT) hV.E hs hx (fun a ha=>hr a (by subst ha;simp[ho,Op.operands])) (fun a ha=>hr a (by subst ha;simp[ho,Op.operands]))
     (fun s' e' he=>by injection he with he;injection he with h1 h2;subst h1;exact aK) ae
    exact bW.val ah h1 (by unfold execOp;simp[ho,h2]) h3
   exact ae.elim
  ·rename_i e id hs vl
   rw[vl] at hx
   split at ae
   ·rename_i mS
    simp only[if_pos mS]
    have dc:(pg V.E e l id (lo.map ρT) (hi.map ρT)).bn = .aP l:=by
     unfold pg at ae ⊢
     repeat' split at ae
     all_goals first | exact ae.elim | skip
     all_goals simp only[*]
     all_goals rfl
    unfold bW
    rw[dc]
    rintro rfl mi
    obtain⟨h1,u,h2,h3⟩:=aiE (w:=w) (lo:=lo) (hi:=hi) (ρ:=ρ) (ρT:=ρT) hV.E ah hs hx (fun a ha=>hr a (by subst ha;simp[ho,Op.operands])) (fun a ha=>hr a (by subst ha;simp[ho,Op.operands])) ae
    have hex:(execOp ρ o).run P w = .ok (.value u) w:=by unfold execOp;simp[ho,h2]
    simp only[hex,cz]
    exact⟨I,m,.refl ..,ah,h3⟩
   rename_i mS
   simp only[if_neg mS]
   split at ae
   ·rename_i size els l' hd
    split at ae
    ·rename_i aK
     simp only[if_pos aK]
     rintro rfl mi
     obtain⟨J,le,r1,ch,_⟩:=wF ah hx hd
     obtain⟨h1,u,h2,h3⟩:=W5 (w:=w) (lo:=lo) (hi:=hi) (ρ:=ρ) (ρT:=ρT) (I:=J) (m:=m) (L:=l') hV.E hs (.d _ _ ch) (fun a ha=>(hr a (by subst ha;simp[ho,Op.operands])).mono le) (fun a ha=>(hr a (by subst ha;simp[ho,Op.operands])).mono le)
      (fun s' e' he=>by injection he with he;injection he with h1 h2;subst h1;exact aK) ae
     have hex:(execOp ρ o).run P w = .ok (.value u) w:=by unfold execOp;simp[ho,h2]
     simp only[hex,cz]
     exact⟨J,m,le,r1,h3⟩
    exact ae.elim
   exact ae.elim
  ·rename_i n e cs hs vl
   rw[vl] at hx
   split at ae
   ·rename_i eL
    simp only[if_pos eL]
    obtain⟨h1,h2⟩:=eL
    cases lo<;>cases hi<;>simp at h1 h2
    obtain⟨h1,u,h2,h3⟩:=ah3 (P:=P) (w:=w) hV.E hs hx ae
    exact bW.val ah h1 (by unfold execOp;simp[ho,h2]) h3
   exact ae.elim
  exact ae.elim
 ·
  rename_i t x lo hi mx ho
  have hx:=hr x (by simp[ho,Op.operands])
  split at ae
  ·rename_i e id hs vl
   rw[vl] at hx
   have dc:(pf V.E e l id (lo.map ρT) (hi.map ρT) (ρT mx)).bn = .aP l:=by
    rcases Hc (E:=V.E) (e:=e) (l:=l) (id:=id) (lo:=lo.map ρT) (hi:=hi.map ρT) (mx:=ρT mx) with h | h
    ·exact h
    rw[h] at ae;exact ae.elim
   unfold bW
   rw[dc]
   rintro rfl mi
   obtain⟨h1,h0,u,h2⟩:=aiB (w:=w) (lo:=lo) (hi:=hi) (mx:=mx) (ρ:=ρ) (ρT:=ρT) hV.E ah hs hx (fun a ha=>hr a (by subst ha;simp[ho,Op.operands])) (fun a ha=>hr a (by subst ha;simp[ho,Op.operands])) (hr mx (by simp[ho,Op.operands])) ae
   have hex:(execOp ρ o).run P w = .ok (.value u) w:=by unfold execOp;simp[ho,h2]
   simp only[hex,cz,h0]
   exact⟨I,m,.refl ..,ah,.undef _⟩
  exact ae.elim
 ·
  rename_i t parts ho
  split at ae
  ·rename_i z fs hs
   split at ae
   ·rename_i bA
    split at ae
    ·rename_i ds hf
     simp only[if_pos bA]
     obtain⟨u,h1,h2⟩:=YL (P:=P) (w:=w) (I:=I) (m:=m) (L:=L) (ρ:=ρ) (ρT:=ρT) hV.E hs (fun p hp=>hr p.2 (by simp only[ho,Op.operands];simp;exact⟨p.1,by simpa using hp⟩)) hf (fun f z7=>List.all_eq_true.1 bA f z7)
     exact bW.val ah rfl (by unfold execOp;simp[ho,h1]) h2
    exact ae.elim
   exact ae.elim
  ·rename_i z n e hs
   split at ae
   ·rename_i bA
    split at ae
    ·rename_i ds hf
     simp only[if_pos bA]
     obtain⟨u,h1,h2⟩:=YI (P:=P) (w:=w) (I:=I) (m:=m) (L:=L) (ρ:=ρ) (ρT:=ρT) hV.E hs (fun p hp=>hr p.2 (by simp only[ho,Op.operands];simp;exact⟨p.1,by simpa using hp⟩)) hf bA
     exact bW.val ah rfl (by unfold execOp;simp[ho,h1]) h2
    exact ae.elim
   exact ae.elim
  exact ae.elim
 ·
  rename_i t len parts ho
  split at ae
  ·rename_i e hs
   split at ae
   ·rename_i he
    simp only[if_pos he]
    split at ae
    ·rename_i hlen
     simp only[if_pos hlen]
     subst hlen
     rintro rfl rfl
     have nO:parts = #[]:=by simpa using ae
     subst nO
     have hu:=mG hV.E hs
     obtain⟨i,hi⟩:=Option.isSome_iff_exists.1 he.1
     have aK:bq V.E e=i.size:=by simp[bq,hi]
     have hex:(execOp ρ o).run P w = .ok (.value (.slice (some ⟨w.heap.size,0,none⟩) 0 0)) (w.alloc (.cells #[] e)):=by
      unfold execOp
      simp[ho,Instr.buildSlice,run_underlying hu,mz hV.E hi,Instr.fill,newRow,Array.range_zero']
     simp only[hex,cz]
     obtain⟨q1,q2,q3⟩:=ah.BX (w':=w.alloc (.cells #[] e)) (v:= .slice (some ⟨w.heap.size,0,none⟩) 0 0) (row:=none) (lo:=L) (e:=e) (size:=bq V.E e) (els:=[]) (xs:=[]) rfl (fun k a ha=> .inr ha) (fun _ _ _ h=>h)
      (World.grownBy_alloc w _ _) (Nat.le_refl _) (fun b hb=>by cases hb) (fun b hb=>by cases hb)
      (
       fun b hb=>by
       simp[own] at hb;subst hb
       refine⟨ah.below.size,ah.sat.eZ (Nat.le_refl _),fun k hk he=>?_⟩
       obtain⟨a,ha,jo⟩:=bN.1 hk
       have:=((ah.obj k a ha).lt jo he).1;omega)
      ⟨by simp,.inr ⟨w.heap.size,0,#[],rfl,ah.below.size,heap_alloc_new w _,Nat.zero_le _,Nat.zero_le _,by simp,by simp⟩⟩ (by simp) (by simp[flat]) ⟨_,_,_,rfl⟩
     exact⟨I,_,q1,q2,q3⟩
    rename_i hlen
    simp only[if_neg hlen]
    split at ae
    ·rename_i ds hm
     split at ae
     ·rename_i eU
      simp only[if_pos eU]
      obtain⟨p1,p2⟩:=UH (I:=I) (m:=m) (L:=L) (ρ:=ρ) parts.toList ds (fun p hp=>hr p.2 (by simp only[ho,Op.operands];simp;exact⟨p.1,by simpa using hp⟩)) hm
      obtain⟨w',J,h1,h2,h3,h4⟩:=OI hV.E ah hs (ρ:=ρ) p1 p2 he hlen eU
      unfold bW
      have hex:(execOp ρ o).run P w = .ok (.value (.slice (some ⟨w.heap.size,0,none⟩) len len)) w':=by unfold execOp;simp[ho,h1]
      simp only[R.ok,hex,cz]
      exact⟨J,h2,h3,.d _ _ h4⟩
     exact ae.elim
    rename_i hm
    split at ae
    ·rename_i ds l1 hd
     split at ae
     ·rename_i eU
      simp only[if_pos eU]
      rintro rfl rfl
      have c9:∀ (i:Nat) v t,(parts.toList.map fun p=>ρ p.2)[i]?=some v→(parts.toList.map fun p=>ρT p.2)[i]?=some t→aq I m L v t:=fun i v t hv ht=>by
       rw[List.getElem?_map] at hv ht
       cases hp:parts.toList[i]? with
       | none=>simp[hp] at hv
       | some p=>
        simp[hp] at hv ht;subst hv;subst ht
        refine hr p.2 ?_
        have:=List.mem_of_getElem? hp
        simp only[ho,Op.operands];simp;exact⟨p.1,by simpa using this⟩
      obtain⟨J1,gm,r1,k1,k2,_⟩:=qF _ L I (parts.toList.map fun p=>ρ p.2) ds l1 ah (by simp) c9 hd
      obtain⟨w',J,h1,h2,h3,h4⟩:=OI hV.E r1 hs (ρ:=ρ) (by simpa using k1) (fun i p d hp aS=>k2 i _ d (by rw[List.getElem?_map,hp];rfl) aS) he hlen eU
      have hex:(execOp ρ o).run P w = .ok (.value (.slice (some ⟨w.heap.size,0,none⟩) len len)) w':=by unfold execOp;simp[ho,h1]
      simp only[hex,cz]
      exact⟨J,_,gm.trans h2,h3,.d _ _ h4⟩
     exact ae.elim
    exact ae.elim
   exact ae.elim
  exact ae.elim
 ·
  rename_i x i ho
  have hx:=hr x (by simp[ho,Op.operands])
  split at ae
  ·rename_i ds sX
   rw[sX] at hx
   split at ae
   ·rename_i d hd
    try simp only[sX,hd]
    have:=cy hx
    generalize mT:ρ x=vx at this
    cases this with
    | aI vs _ q1 q2=>
     have aN:i < vs.size:=by rw[q1];exact(List.getElem?_eq_some_iff.1 hd).1
     have hv:vs[i]?=some vs[i]:=Array.getElem?_eq_getElem aN
     exact bW.val ah rfl (u:=vs[i]) (by unfold execOp;simp[ho,mT,Instr.extract,aN]) (.d _ _ (q2 i _ _ hv hd))
   exact ae.elim
  ·rename_i ts sX
   rw[sX] at hx
   split at ae
   ·rename_i d hd
    try simp only[sX,hd]
    generalize mT:ρ x=vx at hx
    cases hx with
    | aI vs _ q1 q2=>
     have aN:i < vs.size:=by rw[q1];exact(List.getElem?_eq_some_iff.1 hd).1
     have hv:vs[i]?=some vs[i]:=Array.getElem?_eq_getElem aN
     exact bW.val ah rfl (u:=vs[i]) (by unfold execOp;simp[ho,mT,Instr.extract,aN]) (q2 i _ _ hv hd)
   exact ae.elim
  exact ae.elim
 ·
  rename_i c ho
  split at ae
  ·rename_i f cN
   try simp only[cN]
   split at ae
   ·rename_i g hf
    try simp only[hf]
    exact Qm hV ah hc hr (by simp[eO,ho,cN,hf]) ae
   ·rename_i g ds hf
    try simp only[hf]
    exact Qm hV ah hc hr (by simp[eO,ho,cN,hf]) ae
   exact ae.elim
  ·rename_i cN
   try simp only[cN]
   split at ae
   ·rename_i x t ha ht
    try simp only[ha,ht]
    have hx:=hr x (by simp[ho,Op.operands,Call.operands,cN];rw[←Array.mem_toList_iff,ha];simp)
    obtain⟨h1,u,h2,h3⟩:=aex (ty:=o.type) hV.E ah hc hx ae
    refine bW.val ah h1 (xm cN ho (fun k=>rfl) ?_) h3
    have e1:c.args.map ρ = #[ρ x]:=by apply Array.toList_inj.1;simp[ha]
    have e2:c.argTypes = #[t]:=by apply Array.toList_inj.1;simp[ht]
    rw[e1,e2];exact h2
   exact ae.elim
  ·rename_i cN
   try simp only[cN]
   split at ae
   ·rename_i s x t t' ha ht
    try simp only[ha,ht]
    split at ae
    ·rename_i htt
     subst htt
     simp only[if_true]
     have hs:=hr s (by simp[ho,Op.operands,Call.operands,cN];rw[←Array.mem_toList_iff,ha];simp)
     have hx:=hr x (by simp[ho,Op.operands,Call.operands,cN];rw[←Array.mem_toList_iff,ha];simp)
     have e1:c.args.map ρ = #[ρ s,ρ x]:=by apply Array.toList_inj.1;simp[ha]
     have e2:c.argTypes = #[t,t]:=by apply Array.toList_inj.1;simp[ht]
     have dc:∃ l',(kE V.E t l nid (ρT s) (ρT x)).bn = .aP l':=by
      generalize ρT s=ts at *;generalize ρT x=tx at *
      unfold kE at ae ⊢
      repeat' split at ae
      all_goals first | exact ae.elim | skip
      all_goals simp only[*]
      all_goals exact⟨_,rfl⟩
     obtain⟨l',fB⟩:=dc
     unfold bW
     rw[fB]
     rintro rfl hn
     obtain⟨kp,v',w',J,m',h1,h2,h3,h4,h5⟩:=Yl (nid:=nid) (ty:=o.type) (t:=t) hV.E ah hs hx hn ae
     rw[fB] at h1;injection h1 with h1;subst h1
     have hex:(execOp ρ o).run P w = .ok (.value v') w':=xm cN ho (fun k=>rfl) (by rw[e1,e2];exact h2)
     simp only[hex,cz]
     exact⟨J,m',h3,h4,h5⟩
    exact ae.elim
   exact ae.elim
  ·rename_i cN
   try simp only[cN]
   split at ae
   ·rename_i x t ha ht
    try simp only[ha,ht]
    have hx:=hr x (by simp[ho,Op.operands,Call.operands,cN];rw[←Array.mem_toList_iff,ha];simp)
    have e1:c.args.map ρ = #[ρ x]:=by apply Array.toList_inj.1;simp[ha]
    have e2:c.argTypes = #[t]:=by apply Array.toList_inj.1;simp[ht]
    have dc:=Zr ae
    obtain⟨l',fB⟩:=dc
    unfold bW
    rw[fB]
    rintro rfl hn
    obtain⟨KD,kp,w',h1,h2,h3,h4⟩:=Zs (ty:=o.type) hV.E ah hx ae
    rw[fB] at h1;injection h1 with h1;subst h1
    have hex:(execOp ρ o).run P w = .ok (.value (.tuple #[])) w':=xm cN ho (fun k=>rfl) (by rw[e1,e2];exact h2)
    simp only[hex,cz]
    exact⟨I,m,h3,h4,by rw[KD];exact .d _ _ (.aI _ _ rfl (by simp))⟩
   exact ae.elim
  ·rename_i cN
   try simp only[cN]
   split at ae
   ·rename_i x k t t2 ha ht
    try simp only[ha,ht]
    have hx:=hr x (by simp[ho,Op.operands,Call.operands,cN];rw[←Array.mem_toList_iff,ha];simp)
    have hk:=hr k (by simp[ho,Op.operands,Call.operands,cN];rw[←Array.mem_toList_iff,ha];simp)
    have e1:c.args.map ρ = #[ρ x,ρ k]:=by apply Array.toList_inj.1;simp[ha]
    have e2:c.argTypes = #[t,t2]:=by apply Array.toList_inj.1;simp[ht]
    have dc:∃ l',(rF V.E t l (ρT x) (ρT k)).bn = .aP l':=by
     generalize ρT x=ts at *;generalize ρT k=tx at *
     unfold rF at ae ⊢
     repeat' split at ae
     all_goals first | exact ae.elim | skip
     all_goals simp only[*]
     all_goals exact⟨_,rfl⟩
    obtain⟨l',fB⟩:=dc
    unfold bW
    rw[fB]
    rintro rfl hn
    obtain⟨KD,kp,w',h1,h2,h3,h4⟩:=ZU (t2:=t2) (ty:=o.type) hV.E ah hx hk ae
    rw[fB] at h1;injection h1 with h1;subst h1
    have hex:(execOp ρ o).run P w = .ok (.value (.tuple #[])) w':=xm cN ho (fun k=>rfl) (by rw[e1,e2];exact h2)
    simp only[hex,cz]
    exact⟨I,m,h3,h4,by rw[KD];exact .d _ _ (.aI _ _ rfl (by simp))⟩
   exact ae.elim
  ·rename_i cN
   try simp only[cN]
   split at ae
   ·rename_i k a k' b dg
    split at ae
    ·rename_i hk
     subst hk
     simp only[if_true]
     have c9:∃ x y,c.args.toList=[x,y]∧ρT x = .d (.int k a)∧ρT y = .d (.int k b):=by
      match hl:c.args.toList,dg with
      | [x,y],dg=>simp at dg;exact⟨x,y,rfl,dg.1,dg.2⟩
      | [],dg=>simp at dg
      | [x],dg=>simp at dg
      | x::y::z::r,dg=>simp at dg
     obtain⟨x,y,hl,h1,h2⟩:=c9
     have hx:=hr x (by simp[ho,Op.operands,Call.operands,cN];rw[←Array.mem_toList_iff,hl];simp)
     have hy:=hr y (by simp[ho,Op.operands,Call.operands,cN];rw[←Array.mem_toList_iff,hl];simp)
     rw[h1] at hx;rw[h2] at hy
     have hx:=cy hx;have hy:=cy hy
     generalize mT:ρ x=vx at hx;generalize KJ:ρ y=vy at hy
     cases hx;cases hy
     have e1:c.args.map ρ = #[.int k a,.int k b]:=by apply Array.toList_inj.1;simp[hl,mT,KJ]
     refine bW.val ah rfl (u:= .int k (max a b)) (xm cN ho (fun k=>rfl) ?_) (.d _ _ (.int _ _))
     rw[e1]
     simp only[Builtin.max_,List.foldlM_cons,List.foldlM_nil,Builtin.max2,Sem.run_bind,Sem.run_pure,Result.andThen_ok]
     congr 2
     rw[Int.max_def];split<;>split<;>omega
    exact ae.elim
   exact ae.elim
  ·rename_i cN
   try simp only[cN]
   split at ae
   ·rename_i k a k' b dg
    split at ae
    ·rename_i hk
     subst hk
     simp only[if_true]
     have c9:∃ x y,c.args.toList=[x,y]∧ρT x = .d (.int k a)∧ρT y = .d (.int k b):=by
      match hl:c.args.toList,dg with
      | [x,y],dg=>simp at dg;exact⟨x,y,rfl,dg.1,dg.2⟩
      | [],dg=>simp at dg
      | [x],dg=>simp at dg
      | x::y::z::r,dg=>simp at dg
     obtain⟨x,y,hl,h1,h2⟩:=c9
     have hx:=hr x (by simp[ho,Op.operands,Call.operands,cN];rw[←Array.mem_toList_iff,hl];simp)
     have hy:=hr y (by simp[ho,Op.operands,Call.operands,cN];rw[←Array.mem_toList_iff,hl];simp)
     rw[h1] at hx;rw[h2] at hy
     have hx:=cy hx;have hy:=cy hy
     generalize mT:ρ x=vx at hx;generalize KJ:ρ y=vy at hy
     cases hx;cases hy
     have e1:c.args.map ρ = #[.int k a,.int k b]:=by apply Array.toList_inj.1;simp[hl,mT,KJ]
     refine bW.val ah rfl (u:= .int k (min a b)) (xm cN ho (fun k=>rfl) ?_) (.d _ _ (.int _ _))
     rw[e1]
     simp only[Builtin.min_,List.foldlM_cons,List.foldlM_nil,Builtin.min2,Sem.run_bind,Sem.run_pure,Result.andThen_ok]
     congr 2
     rw[Int.min_def];split<;>split<;>omega
    exact ae.elim
   exact ae.elim
  exact ae.elim
 ·
  rename_i t ho
  exact fun h1 h2=>LO (L:=L) (h1▸ah) ho h1 h2
 ·
  rename_i t mm k x ho
  exact VO hV.E ah (.inl ho) hr ae
 ·
  rename_i t mm k x ho
  exact VO hV.E ah (.inr ho) hr ae
 ·
  rename_i t x k ok ho
  obtain⟨h1,u,h2,h3⟩:=aeK (ok:=ok) hV.E ah hc (hr x (by simp[ho,Op.operands])) (hr k (by simp[ho,Op.operands])) ae
  exact bW.val ah h1 (by unfold execOp;simp[ho,h2]) h3
 ·
  rename_i t x i ho
  obtain⟨h1,u,h2,h3⟩:=acs (P:=P) (w:=w) hV.E (hr x (by simp[ho,Op.operands])) (hr i (by simp[ho,Op.operands])) ae
  exact bW.val ah h1 (by unfold execOp;simp[ho,h2]) h3
 ·
  rename_i src t x ho
  obtain⟨h1,u,w',J,h2,h3,h4,h5⟩:=IG hV.E ah (hr x (by simp[ho,Op.operands])) ae
  unfold bW
  rw[h1]
  have hex:(execOp ρ o).run P w = .ok (.value u) w':=by unfold execOp;simp[ho,h2]
  simp only[hex,cz]
  exact⟨J,h3,h4,h5⟩
 ·
  rename_i g first cV ho
  split at ae
  ·rename_i hf
   try simp only[if_pos hf]
   have DV:first = #[]:=Array.isEmpty_iff.1 hf
   refine bW.val ah rfl (u:= .func (.func g) #[] (cV.map ρ)) (by unfold execOp;simp[ho,DV,Instr.makeFunc]) (Zu (.aL _ _ _ (by simp) fun i v t hv ht=>?_))
   rw[Array.getElem?_map] at hv
   rw[List.getElem?_map] at ht
   cases ha:cV[i]? with
   | none=>rw[ha] at hv;cases hv
   | some a=>
    rw[ha] at hv
    have kM:cV.toList[i]?=some a:=by simpa using ha
    rw[kM] at ht
    simp at hv ht;subst hv;subst ht
    exact hr a (by simp[ho,Op.operands,DV];exact Array.mem_of_getElem? ha)
  exact ae.elim
 ·
  rename_i t x ho
  exact M3 hV.E ah ho (hr x (by simp[ho,Op.operands])) ae
 ·
  rename_i x ho
  exact aaa ah hc ho (hr x (by simp[ho,Op.operands])) ae
 ·
  rename_i t a b ho
  obtain⟨l',fB⟩:=aeU ae
  unfold bW
  rw[fB]
  rintro rfl rfl
  obtain⟨kp,w',v,m',h1,h2,h3,h4,h5⟩:=aeV (t:=t) hV.E ah (hr a (by simp[ho,Op.operands])) (hr b (by simp[ho,Op.operands])) ae
  rw[fB] at h1;injection h1 with h1;subst h1
  have hex:(execOp ρ o).run P w = .ok (.value v) w':=by unfold execOp;simp[ho,h2]
  simp only[hex,cz]
  exact⟨I,m',h3,h4,h5⟩
 exact ae.elim
theorem uA {V:Env} {ρT:Operand→T} {l:List AO} {nid:Nat} {o:Oper} (ae:(evalOp V ρT l nid o).ob):∀ c,o.op ≠ .defer c:=by
 intro c hc
 obtain⟨dst,op,ty,pos,CI,g⟩:=o
 simp only at hc
 subst hc
 simp only[evalOp,R.bad] at ae
theorem xf {E:cA} {ρT:Operand→T} {o:Oper} {x:FuncId×List T} (h:eO E ρT o=some x):∀ c,o.op ≠ .defer c:=by
 intro c hc
 unfold eO at h
 rw[hc] at h;cases h
end
end Go.aj
namespace Go.aj
open Go Go.RowKit
variable [bh] [cd]
abbrev PC:=List (Nat×Bool×Bool)
def Xk (qk pc:PC):Bool:=qk.all fun x=>pc.any fun y=>x.1 == y.1&&x.2.2 == y.2.2
def Hd:PC→PC→Prop
 | [],_=>True
 | x::r,pc=>(match pc.find? (fun y=>x.1 == y.1&&x.2.2 == y.2.2) with | some y=>x.2.1=y.2.1 | none=>False)∧Hd r pc
def strip (pc:PC) (t:T):T×Prop:=
 match t with
 | .cond qk u=>if Xk qk pc=true then(u,Hd qk pc) else(t,True)
 | t=>(t,True)
theorem SJ:∀ {pc:PC},holds pc→∀ y∈pc,y.2.1=y.2.2
 | [],_,y,hy=>by cases hy
 | (_,c,b)::r,h,y,hy=>by
  rcases List.mem_cons.1 hy with rfl | hy
  ·exact h.1
  exact SJ h.2 y hy
theorem Xl:∀ {qk pc:PC},Hd qk pc→holds pc→holds qk
 | [],_,_,_=>trivial
 | (j,c,b)::r,pc,h,hp=>by
  obtain⟨h1,h2⟩:=h
  refine⟨?_,Xl h2 hp⟩
  split at h1
  ·rename_i y hy
   have h3:=List.find?_some hy
   simp only[Bool.and_eq_true,beq_iff_eq] at h3
   have:=SJ hp y (List.mem_of_find?_eq_some hy)
   simp only at h1
   rw[h1,this,←h3.2]
  exact h1.elim
theorem SI:∀ {a b:PC},holds (a++b)↔holds a∧holds b
 | [],b=>by simp[holds]
 | (_,c,d)::r,b=>by simp only[List.cons_append,holds,SI (a:=r),and_assoc]
def eJ (ops:List Oper) (s:Tm):Option (Nat×Bool)→Option PC
 | none=>some []
 | some (j,b)=>match (ops[j]?).bind (·.dst) with
  | some d=>match get s d with
   | .d (.bool c)=>some [(j,c,b)]
   | .cond pc (.d (.bool c))=>some (pc++[(j,c,b)])
   | .cond [(0,true,false)] .undef=>some [(0,true,false)]
   | _=>none
  | none=>none
def oU:List Prop→Prop
 | []=>True
 | p::r=>p∧oU r
theorem Fz:∀ {l:List Prop},oU l→∀ p∈l,p
 | [],_,p,hp=>by cases hp
 | q::r,h,p,hp=>by
  rcases List.mem_cons.1 hp with rfl | hp
  ·exact h.1
  exact Fz h.2 p hp
def eS (n:Nat):Option Nat→Bool
 | none=>true
 | some d=>decide (d < n)
def after (s:St) (dst:Option Nat) (pc:PC) (r:R):Option St:=
 match pc,r.bn with
 | [],.none=>some ⟨aY s.t dst r.t,s.l⟩
 | [],.new a=>some ⟨aY s.t dst r.t,s.l++[a]⟩
 | [],.aP l'=>some ⟨aY s.t dst r.t,l'⟩
 | pc,.none=>some ⟨aY s.t dst (.cond pc r.t),s.l⟩
 | _,_=>none
def jC (V:Env) (pc:PC) (s:St) (o:Oper):R:=
 match pc with
 | []=>evalOp V (bR s.t) s.l s.l.length o
 | _::_=>
  let ρ:=fun x=>strip pc (bR s.t x)
  let r:=evalOp V (fun x=>(ρ x).1) s.l s.l.length o
  ⟨r.t,r.bn,r.ob∧oU (o.op.operands.toList.map fun x=>(ρ x).2)⟩
def stepT (pc:PC) (s:Tm) (x:Operand):T:=match pc with | []=>bR s x | _::_=>(strip pc (bR s x)).1
def gone:T:= .cond [(0,true,false)] .undef
theorem RJ {I:aw} {m:Nat→Value} {l:List AO}:aq I m l Go.undef gone:= .cond _ _ _ (fun h=>by simp[holds] at h) (fun _=>rfl)
abbrev Way:=Option (List Nat)
def Nj (sk:List Nat) (dst:Option Nat):Bool:=match dst with | some d=>sk.contains d | none=>false
def fA (V:Env) (n:Nat) (ops:List Oper) (md:Way):List Oper→St→(St→Prop)→Prop
 | [],s,K=>K s
 | o::r,s,K=>
  match eJ ops s.t o.guard with
  | none=>False
  | some pc=>
   match md with
   | none=>
    (match jC V pc s o with
    | ⟨t,bn,ob⟩=>(holds pc→ob)∧eS n o.dst=true∧match after s o.dst pc ⟨t,bn,True⟩ with | some s'=>fA V n ops md r s' K | none=>False)
   | some sk=>
    if Nj sk o.dst=true then(holds pc→False)∧eS n o.dst=true∧fA V n ops md r ⟨aY s.t o.dst gone,s.l⟩ K
    else holds pc∧(match jC V [] s o with
    | ⟨t,bn,ob⟩=>ob∧eS n o.dst=true∧match after s o.dst [] ⟨t,bn,True⟩ with | some s'=>fA V n ops md r s' K | none=>False)
def mark (D:Nat):Deferred:={ target:= .collected D,args:= #[] }
def fJ (B:Nat) (I:aw) (ds:List Deferred):Prop:=∃ Ds:List Nat,ds=Ds.map mark∧Ds.Nodup∧(∀ D∈Ds,B≤D∧¬ cd.iZ D∧I.df D)∧∀ b,cd.iZ b→I.df b
theorem fJ.vQ {B:Nat} {I J:aw} {ds:List Deferred} (h:fJ B I ds) (hl:∀ b,I.df b→J.df b):fJ B J ds:=by
 obtain⟨Ds,h1,h2,h3,h4⟩:=h
 exact⟨Ds,h1,h2,fun D hD=>⟨(h3 D hD).1,(h3 D hD).2.1,hl _ (h3 D hD).2.2⟩,fun b hb=>hl _ (h4 b hb)⟩
theorem fJ.mono {B:Nat} {I J:aw} {ds:List Deferred} (h:fJ B I ds) (hl:I.le J):fJ B J ds:=h.vQ hl.df
theorem fJ.nil {B:Nat} {I:aw} (h:∀ b,cd.iZ b→I.df b):fJ B I []:=⟨[],rfl,.nil,by simp,h⟩
theorem fJ.GG {B:Nat} {I J:aw} {a:Act} {dst:Option Nat} {v:Value} (h:fJ B I a.defers) (hl:∀ b,I.df b→J.df b):fJ B J (a.put dst v).defers:=by
 have:(a.put dst v).defers=a.defers:=by cases dst<;>rfl
 rw[this];exact h.vQ hl
theorem fJ.put {B:Nat} {I J:aw} {a:Act} {dst:Option Nat} {v:Value} (h:fJ B I a.defers) (hl:I.le J):fJ B J (a.put dst v).defers:=h.GG hl.df
theorem fJ.cons {B:Nat} {I J:aw} {ds:List Deferred} {D:Nat} (h:fJ B I ds) (hl:∀ b,I.df b→J.df b) (hB:B≤D) (hI:¬ I.df D) (hJ:J.df D):fJ B J (mark D::ds):=by
 obtain⟨Ds,h1,h2,h3,h4⟩:=h
 refine⟨D::Ds,by rw[h1];rfl,List.nodup_cons.2 ⟨fun hm=>hI (h3 D hm).2.2,h2⟩,fun x hx=>?_,fun b hb=>hl _ (h4 b hb)⟩
 rcases List.mem_cons.1 hx with rfl | hx
 ·exact⟨hB,fun hk=>hI (h4 _ hk),hJ⟩
 exact⟨(h3 x hx).1,(h3 x hx).2.1,hl _ (h3 x hx).2.2⟩
structure Rel (w0:World) (I0:aw) (n:Nat) (s:St) (a:Act) (w:World):Prop where
 size:a.tmps.size=n
 rel:∃ I m,aF w0 I0 w I m s.l∧fJ w0.heap.size I a.defers∧∀ k,aq I m s.l (a.tmps.getD k undef) (get s.t k)
section
variable {P:Program} {V:Env} {w0 w:World} {I0 I:aw} {m:Nat→Value} {l L:List AO} {n:Nat}
theorem IC (v:Value):aq I m L v (zn v):=by
 unfold zn
 split
 ·exact .d _ _ (.bool _)
 ·exact .d _ _ (.int _ _)
 ·exact .d _ _ (.str _)
 ·exact .bC _
 ·exact .d _ _ .eY
 ·exact .d _ _ .tj
 ·exact .d _ _ .aG
 ·exact .d _ _ .qf
 exact .undef _
theorem Ju {s:Tm} {a:Act} (hg:∀ g d,bh.l8 g=some d→Rd I (.pointer (some ⟨g,0,none⟩)) (.box d)) (g:Nat):aq I m L (a.eval (.global g)) (bR s (.global g)):=by
 show aq I m L (.pointer (some ⟨g,0,none⟩)) (match bh.l8 g with | some d=> .bw d.cells.length [d] 0 0 | none=> .undef)
 cases hd:bh.l8 g with
 | none=>exact .undef _
 | some d=>
  have:=hg g d hd
  cases this with
  | box _ _ val h1 h2 h3=>
   have:=aq.bw (I:=I) (m:=m) (l:=L) g 0 d.cells.length [d] 0 0 val (by simp) (fun x hx=>by simp at hx;subst hx;exact⟨rfl,h1⟩) (fun j hj=>by rw[Nat.zero_add];exact h2 j (by simpa using hj)) (fun j x hx=>h3 j x (by simpa [flat] using hx))
   simpa using this
theorem qN {s:Tm} {a:Act} (hg:∀ g d,bh.l8 g=some d→Rd I (.pointer (some ⟨g,0,none⟩)) (.box d)) (h:∀ k,aq I m L (a.tmps.getD k undef) (get s k)) (x:Operand):aq I m L (a.eval x) (bR s x):=by
 cases x with
 | tmp t=>exact h t
 | const v=>exact IC v
 | global g=>exact Ju hg g
 | func f=>exact .d _ _ (.fn f)
theorem Nr {pc:PC} {v:Value} {t:T} (h:aq I m L v t) (hp:holds pc) (ae:(strip pc t).2):aq I m L v (strip pc t).1:=by
 unfold strip at ae ⊢
 split at ae
 ·rename_i qk u
  split at ae
  ·rename_i hs
   simp only[if_pos hs]
   exact B2 h (Xl ae hp)
  rename_i hs
  simp only[if_neg hs]
  exact h
 exact h
theorem uL (s:Tm) (d:Nat) (t:T) (k:Nat):get ((d,t)::s) k=if d=k then t else get s k:=rfl
theorem o5 {s:Tm} {a:Act} {dst:Option Nat} {v:Value} {t:T} (aK:a.tmps.size=n) (hd:eS n dst=true) (h:∀ k,aq I m L (a.tmps.getD k undef) (get s k)) (hv:aq I m L v t) :
  ∀ k,aq I m L ((a.put dst v).tmps.getD k undef) (get (aY s dst t) k):=by
 intro k
 cases dst with
 | none=>exact h k
 | some d=>
  simp only[eS,decide_eq_true_eq] at hd
  simp only[aY,uL,Act.put]
  by_cases hk:d=k
  ·subst hk
   rw[if_pos rfl]
   have:(a.tmps.setIfInBounds d v).getD d undef=v:=by simp[Array.getD_eq_getD_getElem?,aK,hd]
   rw[this];exact hv
  rw[if_neg hk]
  have:(a.tmps.setIfInBounds d v).getD k undef=a.tmps.getD k undef:=by simp[Array.getD_eq_getD_getElem?,hk]
  rw[this];exact h k
theorem NR {ops:List Oper} {s:Tm} {a:Act} {o:Oper} {pc:PC} (h:∀ j b d,o.guard=some (j,b)→(ops[j]?).bind (·.dst)=some d→aq I m L (a.tmps.getD d undef) (get s d)) (hg:eJ ops s o.guard=some pc):Region.wanted o (yielded ops.toArray a.tmps)=true↔holds pc:=by
 cases lG:o.guard with
 | none=>rw[lG] at hg;simp[eJ] at hg;subst hg;simp[Region.wanted,lG,holds]
 | some jb=>
  obtain⟨j,b⟩:=jb
  rw[lG] at hg
  simp only[eJ] at hg
  split at hg
  ·rename_i d hd
   have hy:yielded ops.toArray a.tmps j=match a.tmps[d]? with | some (.bool c)=>some c | _=>none:=by
    unfold yielded
    have:((ops.toArray[j]?).bind (·.dst))=some d:=by simpa using hd
    rw[this];rfl
   have Sn:∀ v,a.tmps.getD d undef=v→v≠undef→a.tmps[d]?=some v:=by
    intro v hv bc
    rw[Array.getD_eq_getD_getElem?] at hv
    cases hx:a.tmps[d]? with
    | none=>rw[hx] at hv;exact absurd hv.symm bc
    | some u=>rw[hx] at hv;simp at hv;rw[hv]
   have hk:=h j b d lG hd
   simp only[Region.wanted,lG,hy,beq_iff_eq]
   split at hg
   ·rename_i c hc
    simp at hg;subst hg
    rw[hc] at hk
    have:=cy hk
    generalize hv:a.tmps.getD d undef=v at this
    cases this
    rw[Sn _ hv (by unfold undef;simp)]
    simp[holds]
   ·rename_i qk c hc
    simp at hg;subst hg
    rw[hc] at hk
    generalize hv:a.tmps.getD d undef=v at hk
    cases hk with
    | cond _ _ _ h1 h2=>
     rw[SI]
     by_cases hp:holds qk
     ·have:=cy (h1 hp)
      cases this
      rw[Sn _ hv (by unfold undef;simp)]
      simp[holds,hp]
     have KI:=h2 hp
     subst KI
     constructor
     ·intro hh
      exfalso
      split at hh
      ·rename_i c' iG
       rw[Array.getD_eq_getD_getElem?,iG] at hv
       simp[undef] at hv
      cases hh
     rintro⟨h,_⟩;exact absurd h hp
   ·rename_i hc
    simp at hg;subst hg
    rw[hc] at hk
    generalize hv:a.tmps.getD d undef=v at hk
    cases hk with
    | cond _ _ _ h1 h2=>
     have KI:=h2 (by simp[holds])
     subst KI
     constructor
     ·intro hh
      exfalso
      split at hh
      ·rename_i c' iG
       rw[Array.getD_eq_getD_getElem?,iG] at hv
       simp[undef] at hv
      cases hh
     intro hh;simp[holds] at hh
   cases hg
  cases hg
theorem tV {ops:List Oper} {s:Tm} {a:Act} {o:Oper} {pc:PC} (h:∀ k,aq I m L (a.tmps.getD k undef) (get s k)) (hg:eJ ops s o.guard=some pc):Region.wanted o (yielded ops.toArray a.tmps)=true↔holds pc:=
 NR (fun _ _ d _ _=>h d) hg
theorem Vt (hV:dI P V) {ops:List Oper} {Q:Exit→Act→World→Prop} {o:Oper} {pc qc:PC} {s s':St} {a:Act} {w:World} (ah:Rel w0 I0 n s a w) (hg:eJ ops s.t o.guard=some qc) (hq:holds qc↔holds pc) (ae:holds pc→(jC V pc s o).ob) (ef:eS n o.dst=true) {t:T} {bn:wS} (hR:(jC V pc s o).t=t∧(jC V pc s o).bn=bn) (bl:after s o.dst pc ⟨t,bn,True⟩=some s') {Kn:Act→World→Prop}
  (hK:∀ a' w',Rel w0 I0 n s' a' w'→Kn a' w') :
  if Region.wanted o (yielded ops.toArray a.tmps)=true then o.wpIn eC 0 P a w Kn Q else(∀ f,o.about P w a.eval=some f→eC.fn f)∧Kn (a.put o.dst undef) w:=by
  obtain⟨aK,I,m,hw,dY,ht⟩:=ah
  obtain⟨rfl,rfl⟩:=hR
  have mU:=(tV ht hg).trans hq
  by_cases hp:holds pc
  ·rw[if_pos (mU.2 hp)]
   have ae:=ae hp
   have uY:∀ x∈o.op.operands,aq I m s.l (a.eval x) (stepT pc s.t x):=fun x hx=>by
    cases pc with
    | nil=>exact qN hw.sat.dA ht x
    | cons y pc=>exact Nr (qN hw.sat.dA ht x) hp (Fz ae.2 _ (List.mem_map.2 ⟨x,by simpa using hx,rfl⟩))
   have iI:(jC V pc s o).t=(evalOp V (stepT pc s.t) s.l s.l.length o).t∧(jC V pc s o).bn=(evalOp V (stepT pc s.t) s.l s.l.length o).bn∧((jC V pc s o).ob→(evalOp V (stepT pc s.t) s.l s.l.length o).ob):=by
    cases pc with
    | nil=>exact⟨rfl,rfl,id⟩
    | cons y pc=>exact⟨rfl,rfl,fun h=>h.1⟩
   obtain⟨nQ,Ee,Ef⟩:=iI
   have qZ:=Ef ae
   clear ae Ef
   have Eb:=qZ
   clear qZ
   rw[nQ,Ee] at bl
   clear nQ Ee
   have fN:=uA Eb
   generalize hr:evalOp V (stepT pc s.t) s.l s.l.length o=res at *
   cases dc:res.bn with
   | none=>
    have hs:=qO (nid:=s.l.length) hV hw (fw.refl _) uY (by rw[hr];exact Eb)
    rw[hr] at hs
    unfold bW at hs
    rw[dc] at hs
    refine cz.wpIn fN (hs.mono fun v w' ⟨J,hle,eE,hv⟩=>?_)
    have rf:s'=⟨aY s.t o.dst (if pc=[] then res.t else .cond pc res.t),s.l⟩:=by
     unfold after at bl
     simp only[dc] at bl
     cases pc<;>simp at bl<;>simp[←bl]
    subst rf
    refine hK _ _ ⟨by cases o.dst<;>simp[Act.put,aK],J,m,eE,dY.put hle.eF,o5 aK ef (fun k=>(ht k).mono hle) ?_⟩
    split
    ·exact hv
    exact .cond _ _ _ (fun _=>hv) (fun hn=>absurd hp hn)
   | new x=>
    have iq:pc=[]:=by
     unfold after at bl;simp only[dc] at bl
     cases pc<;>simp at bl;rfl
    subst iq
    have rf:s'=⟨aY s.t o.dst res.t,s.l++[x]⟩:=by
     unfold after at bl;simp only[dc] at bl;simp at bl;exact bl.symm
    subst rf
    obtain⟨nT,iV⟩:=hw.push
    have hs:=qO (nid:=s.l.length) hV nT (L:=s.l++[.dead]) (fun id an=>List.getElem?_append_left an) (fun x hx=>(uY x hx).mono iV) (by rw[hr];exact Eb)
    rw[hr] at hs
    unfold bW at hs
    rw[dc] at hs
    refine cz.wpIn fN ((hs (by simp)).mono fun v w' ⟨m',hle,eE,hv⟩=>?_)
    have fY:(s.l++[AO.dead]).set s.l.length x=s.l++[x]:=by simp
    rw[fY] at hle eE hv
    exact hK _ _ ⟨by cases o.dst<;>simp[Act.put,aK],I,m',eE,dY.put (.refl I),o5 aK ef (fun k=>(ht k).mono (iV.trans hle)) hv⟩
   | aP l'=>
    have iq:pc=[]:=by
     unfold after at bl;simp only[dc] at bl
     cases pc<;>simp at bl;rfl
    subst iq
    have rf:s'=⟨aY s.t o.dst res.t,l'⟩:=by
     unfold after at bl;simp only[dc] at bl;simp at bl;exact bl.symm
    subst rf
    have hs:=qO (nid:=s.l.length) hV hw (fw.refl _) uY (by rw[hr];exact Eb)
    rw[hr] at hs
    unfold bW at hs
    rw[dc] at hs
    refine cz.wpIn fN ((hs rfl rfl).mono fun v w' ⟨J,m',hle,eE,hv⟩=>?_)
    exact hK _ _ ⟨by cases o.dst<;>simp[Act.put,aK],J,m',eE,dY.put hle.eF,o5 aK ef (fun k=>(ht k).mono hle) hv⟩
  rw[if_neg (fun hh=>hp (mU.1 hh))]
  have iq:pc≠[]:=by rintro rfl;exact hp trivial
  have dc:(jC V pc s o).bn = .none:=by
   unfold after at bl
   generalize (jC V pc s o).bn=e at *
   cases pc with
   | nil=>exact absurd rfl iq
   | cons x pc=>cases e<;>simp at bl<;>rfl
  have rf:s'=⟨aY s.t o.dst (.cond pc (jC V pc s o).t),s.l⟩:=by
   unfold after at bl
   simp only[dc] at bl
   cases pc with
   | nil=>exact absurd rfl iq
   | cons x pc=>simp at bl;exact bl.symm
  subst rf
  exact⟨fun f _=>si f,hK _ _ ⟨by cases o.dst<;>simp[Act.put,aK],I,m,hw,dY.put (.refl I),o5 aK ef ht (.cond _ _ _ (fun h=>absurd h hp) (fun _=>rfl))⟩⟩
theorem Q1 (hV:dI P V) {ops:List Oper} {md:Way} {Q:Exit→Act→World→Prop} {K:St→Prop} {o:Oper} {r:List Oper} {s:St} {a:Act} {w:World} (ah:Rel w0 I0 n s a w) (h:fA V n ops md (o::r) s K) {Kn:Act→World→Prop}
  (hK:∀ s' a' w',fA V n ops md r s' K→Rel w0 I0 n s' a' w'→Kn a' w') :
  if Region.wanted o (yielded ops.toArray a.tmps)=true then o.wpIn eC 0 P a w Kn Q else(∀ f,o.about P w a.eval=some f→eC.fn f)∧Kn (a.put o.dst undef) w:=by
  simp only[fA] at h
  split at h
  ·exact h.elim
  rename_i qc hg
  cases md with
  | none=>
   simp only at h
   obtain⟨ae,ef,h⟩:=h
   split at h
   ·rename_i s' bl
    exact Vt hV ah hg Iff.rfl ae ef ⟨rfl,rfl⟩ bl fun a' w' hr=>hK s' a' w' h hr
   exact h.elim
  | some sk=>
   simp only at h
   split at h
   ·obtain⟨bS,ef,h⟩:=h
    obtain⟨aK,I,m,hw,dY,ht⟩:=ah
    rw[if_neg (fun hh=>bS ((tV ht hg).1 hh))]
    exact⟨fun f _=>si f,hK _ _ _ h ⟨by cases o.dst<;>simp[Act.put,aK],I,m,hw,dY.put (.refl I),o5 aK ef ht RJ⟩⟩
   obtain⟨xI,ae,ef,h⟩:=h
   split at h
   ·rename_i s' bl
    exact Vt hV ah hg (pc:=[]) ⟨fun _=>trivial,fun _=>xI⟩ (fun _=>ae) ef ⟨rfl,rfl⟩ bl fun a' w' hr=>hK s' a' w' h hr
   exact h.elim
theorem Q0 (hV:dI P V) {ops:List Oper} {md:Way} {Q:Exit→Act→World→Prop} {K:St→Prop} (hK:∀ s a w,K s→Rel w0 I0 n s a w→Q .normal a w):∀ (r:List Oper) (s:St) (a:Act) (w:World),Rel w0 I0 n s a w→fA V n ops md r s K→wpListIn eC 0 P ops.toArray Q r a w
 | [],s,a,w,ah,h=>hK s a w h ah
 | o::r,s,a,w,ah,h=>by
  unfold wpListIn
  exact Q1 hV ah h fun s' a' w' h' ju=>Q0 hV hK r s' a' w' ju h'
end
end Go.aj
namespace Go.aj
open Go Go.RowKit
variable [bh]
def waits (o:Oper):List Nat:=(o.after.toList.filter (Region.binds .any)).map (·.on)
def tmpsOf (o:Oper):List Nat:=o.op.operands.toList.filterMap fun | .tmp t=>some t | _=>none
def iN (ops:List Oper) (o:Oper):List Nat:=tmpsOf o++(match o.guard with | some (j,_)=>((ops[j]?).bind (·.dst)).toList | none=>[])
def p9 (ops:List Oper):Bool:=(List.range ops.length).all fun i=>match ops[i]? with | some o=>(waits o).all (· < i) | none=>true
def aiK (ops:List Oper) (n1:Nat):Bool:=(List.range ops.length).all fun i=>decide (i < n1)||match ops[i]? with | some o=>(List.range i).all (fun j=>(waits o).contains j) | none=>true
def tN (ops:List Oper) (n1:Nat):Bool:=(List.range n1).all fun i=>match ops[i]? with
 | some o=>(List.range n1).all fun j=>match ops[j]? with
  | some q=>(match q.dst with
   | some d=>(decide (i=j)||o.dst != some d)&&(!(iN ops o).contains d||(decide (j < i)&&(waits o).contains j))
   | none=>true)
  | none=>true
 | none=>false
def jj (V:Env) (n:Nat) (ops:List Oper) (md:Way) (l0:List AO):List Oper→(k:Nat)→Tm→List (Nat×AO)→(Tm→List (Nat×AO)→Prop)→Prop
 | [],_,tm,news,K=>K tm news
 | o::r,k,tm,news,K=>
  match eJ ops tm o.guard with
  | none=>False
  | some pc=>
   match md with
   | none=>
    let ρ:=fun x=>strip pc (bR tm x)
    (match evalOp V (fun x=>(ρ x).1) l0 (l0.length+news.length) o with
    | ⟨t,bn,ob⟩=>
     (holds pc→ob∧oU (o.op.operands.toList.map fun x=>(ρ x).2))∧eS n o.dst=true ∧
     match pc,bn with
     | [],.none=>jj V n ops md l0 r (k+1) (aY tm o.dst t) news K
     | [],.new a=>jj V n ops md l0 r (k+1) (aY tm o.dst t) (news++[(k,a)]) K
     | pc,.none=>jj V n ops md l0 r (k+1) (aY tm o.dst (.cond pc t)) news K
     | _,_=>False)
   | some sk=>
    if Nj sk o.dst=true then o.guard.isSome=true∧(holds pc→False)∧eS n o.dst=true∧jj V n ops md l0 r (k+1) (aY tm o.dst gone) news K
    else holds pc∧(match evalOp V (fun x=>(strip [] (bR tm x)).1) l0 (l0.length+news.length) o with
    | ⟨t,bn,ob⟩=>
     (ob∧oU (o.op.operands.toList.map fun x=>(strip [] (bR tm x)).2))∧eS n o.dst=true ∧
     match bn with
     | .none=>jj V n ops md l0 r (k+1) (aY tm o.dst t) news K
     | .new a=>jj V n ops md l0 r (k+1) (aY tm o.dst t) (news++[(k,a)]) K
     | _=>False)
structure Rec where
 tm:Tm
 pc:PC
 t:T
 ob:Prop
 new:Option AO
 nid:Nat
def Rec.out (r:Rec):T:=if r.pc=[] then r.t else .cond r.pc r.t
structure N2 (V:Env) (n:Nat) (ops:List Oper) (l0:List AO) (o:Oper) (r:Rec):Prop where
 guard:∃ qc,eJ ops r.tm o.guard=some qc∧(holds qc↔holds r.pc)
 aa1:o.guard=none→r.pc=[]
 res:holds r.pc→evalOp V (fun x=>(strip r.pc (bR r.tm x)).1) l0 r.nid o=⟨r.t,(match r.new with | some a=> .new a | none=> .none),r.ob⟩
 ob:holds r.pc→r.ob∧oU (o.op.operands.toList.map fun x=>(strip r.pc (bR r.tm x)).2)
 dst:eS n o.dst=true
 new:r.new.isSome=true→r.pc=[]
 gone:¬ holds r.pc→r.new=none
def cC:Nat→List Rec→List (Nat×AO)
 | _,[]=>[]
 | k,r::rs=>(match r.new with | some a=>[(k,a)] | none=>[])++cC (k+1) rs
def gb:Tm→List Oper→List Rec→Tm
 | tm,o::os,r::rs=>gb (aY tm o.dst r.out) os rs
 | tm,_,_=>tm
def lW (V:Env) (n:Nat) (ops:List Oper) (l0:List AO):List Oper→Nat→Tm→Nat→List Rec→Prop
 | [],_,_,_,rs=>rs=[]
 | o::os,k,tm,c,rs=>∃ r iP,rs=r::iP∧r.tm=tm∧r.nid=l0.length+c∧N2 V n ops l0 o r∧lW V n ops l0 os (k+1) (aY tm o.dst r.out) (c+(if r.new.isSome then 1 else 0)) iP
theorem sA {V:Env} {n:Nat} {ops:List Oper} {md:Way} {l0:List AO} {K:Tm→List (Nat×AO)→Prop}:∀ (r:List Oper) (k:Nat) (tm:Tm) (news:List (Nat×AO)),jj V n ops md l0 r k tm news K →
  ∃ rs,lW V n ops l0 r k tm news.length rs∧K (gb tm r rs) (news++cC k rs)
 | [],k,tm,news,h=>⟨[],rfl,by simpa [gb,cC,jj] using h⟩
 | o::r,k,tm,news,h=>by
  simp only[jj] at h
  split at h
  ·exact h.elim
  rename_i pc hg
  have JW:o.guard=none→pc=[]:=fun e=>by rw[e] at hg;simpa [eJ] using hg.symm
  cases md with
  | none=>
   simp only at h
   generalize iI:evalOp V (fun x=>(strip pc (bR tm x)).1) l0 (l0.length+news.length) o=res at h
   obtain⟨t,bn,ob⟩:=res
   simp only at h
   obtain⟨ae,ef,h⟩:=h
   split at h
   ·obtain⟨rs,h1,h2⟩:=sA r (k+1) _ _ h
    refine⟨⟨tm,[],t,ob,none,l0.length+news.length⟩::rs,⟨_,rs,rfl,rfl,rfl,⟨⟨_,hg,Iff.rfl⟩,fun _=>rfl,fun _=>iI,ae,ef,by simp,fun _=>rfl⟩,by simpa [Rec.out] using h1⟩,?_⟩
    simpa [gb,cC,Rec.out] using h2
   ·rename_i a
    obtain⟨rs,h1,h2⟩:=sA r (k+1) _ _ h
    refine⟨⟨tm,[],t,ob,some a,l0.length+news.length⟩::rs,⟨_,rs,rfl,rfl,rfl,⟨⟨_,hg,Iff.rfl⟩,fun _=>rfl,fun _=>iI,ae,ef,by simp,fun h=>(h trivial).elim⟩,by simpa [Rec.out] using h1⟩,?_⟩
    simpa [gb,cC,Rec.out] using h2
   ·rename_i bc
    obtain⟨rs,h1,h2⟩:=sA r (k+1) _ _ h
    have iq:pc≠[]:=fun e=>bc e
    refine⟨⟨tm,pc,t,ob,none,l0.length+news.length⟩::rs,⟨_,rs,rfl,rfl,rfl,⟨⟨_,hg,Iff.rfl⟩,JW,fun _=>iI,ae,ef,by simp,fun _=>rfl⟩,by simpa [Rec.out,iq] using h1⟩,?_⟩
    simpa [gb,cC,Rec.out,iq] using h2
   exact h.elim
  | some sk=>
   simp only at h
   split at h
   ·obtain⟨Aa,bS,ef,h⟩:=h
    obtain⟨rs,h1,h2⟩:=sA r (k+1) _ _ h
    have JR:¬ holds [((0:Nat),true,false)]:=by simp[holds]
    refine⟨⟨tm,[(0,true,false)],.undef,True,none,l0.length+news.length⟩::rs,⟨_,rs,rfl,rfl,rfl,⟨⟨_,hg,⟨fun h=>(bS h).elim,fun h=>(JR h).elim⟩⟩,fun e=>(by rw[e] at Aa;cases Aa),fun h=>(JR h).elim,fun h=>(JR h).elim,ef,by simp,fun _=>rfl⟩,by simpa [Rec.out,gone] using h1⟩,?_⟩
    simpa [gb,cC,Rec.out,gone] using h2
   obtain⟨xI,h⟩:=h
   generalize iI:evalOp V (fun x=>(strip [] (bR tm x)).1) l0 (l0.length+news.length) o=res at h
   obtain⟨t,bn,ob⟩:=res
   simp only at h
   obtain⟨ae,ef,h⟩:=h
   split at h
   ·obtain⟨rs,h1,h2⟩:=sA r (k+1) _ _ h
    refine⟨⟨tm,[],t,ob,none,l0.length+news.length⟩::rs,⟨_,rs,rfl,rfl,rfl,⟨⟨_,hg,⟨fun _=>trivial,fun _=>xI⟩⟩,fun _=>rfl,fun _=>iI,fun _=>ae,ef,by simp,fun _=>rfl⟩,by simpa [Rec.out] using h1⟩,?_⟩
    simpa [gb,cC,Rec.out] using h2
   ·rename_i a
    obtain⟨rs,h1,h2⟩:=sA r (k+1) _ _ h
    refine⟨⟨tm,[],t,ob,some a,l0.length+news.length⟩::rs,⟨_,rs,rfl,rfl,rfl,⟨⟨_,hg,⟨fun _=>trivial,fun _=>xI⟩⟩,fun _=>rfl,fun _=>iI,fun _=>ae,ef,by simp,fun h=>(h trivial).elim⟩,by simpa [Rec.out] using h1⟩,?_⟩
    simpa [gb,cC,Rec.out] using h2
   exact h.elim
theorem lW.len {V:Env} {n:Nat} {ops:List Oper} {l0:List AO}:∀ {r:List Oper} {k:Nat} {tm:Tm} {c:Nat} {rs:List Rec},lW V n ops l0 r k tm c rs→rs.length=r.length
 | [],_,_,_,rs,h=>by simp only[lW] at h;subst h;rfl
 | o::r,k,tm,c,rs,h=>by
  obtain⟨x,iP,rfl,_,_,_,h'⟩:=h
  simp[h'.len]
theorem lW.at_ {V:Env} {n:Nat} {ops:List Oper} {l0:List AO}:∀ {r:List Oper} {k:Nat} {tm:Tm} {c:Nat} {rs:List Rec},lW V n ops l0 r k tm c rs→∀ (i:Nat) o x,r[i]?=some o→rs[i]?=some x →
  N2 V n ops l0 o x∧x.tm=gb tm (r.take i) (rs.take i)∧x.nid=l0.length+c+(cC k (rs.take i)).length
 | [],_,_,_,rs,h,i,o,x,ho,hx=>by simp at ho
 | q::r,k,tm,c,rs,h,i,o,x,ho,hx=>by
  obtain⟨y,iP,rfl,h1,h2,h3,h4⟩:=h
  rcases i with _ | i
  ·simp at ho hx;subst ho;subst hx
   exact⟨h3,by simp[gb];exact h1,by simp[cC];omega⟩
  simp at ho hx
  obtain⟨g1,g2,g3⟩:=h4.at_ i o x ho hx
  refine⟨g1,by simpa [gb] using g2,?_⟩
  rw[g3]
  cases hn:y.new<;>simp[cC,hn]<;>omega
theorem zJ:∀ (r:List Oper) (rs:List Rec) (tm:Tm) (t:Nat),(∀ o∈r,o.dst≠some t)→get (gb tm r rs) t=get tm t
 | [],rs,tm,t,_=>by cases rs<;>rfl
 | o::r,[],tm,t,_=>rfl
 | o::r,x::rs,tm,t,h=>by
  simp only[gb]
  rw[zJ r rs _ t (fun q hq=>h q (by simp[hq]))]
  have:=h o (by simp)
  cases hd:o.dst with
  | none=>rfl
  | some d=>simp only[aY,uL];rw[if_neg (fun e=>this (by rw[hd,e]))]
theorem DJ:∀ (r:List Oper) (rs:List Rec) (tm:Tm) (t i:Nat) (o:Oper) (x:Rec),r[i]?=some o→rs[i]?=some x→o.dst=some t→(∀ j q,r[j]?=some q→j≠i→q.dst≠some t)→get (gb tm r rs) t=x.out
 | [],rs,tm,t,i,o,x,ho,_,_,_=>by simp at ho
 | q::r,[],tm,t,i,o,x,_,hx,_,_=>by simp at hx
 | q::r,y::rs,tm,t,i,o,x,ho,hx,hd,hu=>by
  simp only[gb]
  rcases i with _ | i
  ·simp at ho hx;subst ho;subst hx
   rw[zJ r rs _ t (fun q' jZ=>by
    obtain⟨j,hj,rfl⟩:=List.mem_iff_getElem.1 jZ
    exact hu (j+1) _ (by simpa using List.getElem?_eq_getElem hj) (by omega))]
   rw[hd];simp[aY,uL]
  simp at ho hx
  exact DJ r rs _ t i o x ho hx hd (fun j q' jZ hj=>hu (j+1) q' (by simpa using jZ) (by omega))
theorem Fp:∀ (rs:List Rec) (k:Nat),(∀ p∈cC k rs,k≤p.1∧p.1 < k+rs.length)∧(∀ (i:Nat) x a,rs[i]?=some x→x.new=some a→(cC k rs)[(cC k (rs.take i)).length]?=some (k+i,a)) ∧
  (∀ (p q:Nat) x y,(cC k rs)[p]?=some x→(cC k rs)[q]?=some y→x.1=y.1→p=q)
 | [],k=>by simp[cC]
 | r::rs,k=>by
  obtain⟨h1,h2,h3⟩:=Fp rs (k+1)
  cases hn:r.new with
  | none=>
   simp only[cC,hn,List.nil_append]
   refine⟨fun p hp=>by have:=h1 p hp;simp;omega,fun i x a hx ha=>?_,h3⟩
   rcases i with _ | i
   ·simp at hx;subst hx;rw[hn] at ha;cases ha
   simp at hx
   have:=h2 i x a hx ha
   simp only[List.take_succ_cons,cC,hn,List.nil_append]
   rw[this];congr 2;omega
  | some b=>
   simp only[cC,hn,List.cons_append,List.nil_append]
   refine⟨fun p hp=>?_,fun i x a hx ha=>?_,fun p q x y hx hy he=>?_⟩
   ·rcases List.mem_cons.1 hp with rfl | hp
    ·simp
    have:=h1 p hp;simp;omega
   ·rcases i with _ | i
    ·simp at hx;subst hx;rw[hn] at ha;injection ha with ha;subst ha;simp[cC]
    simp at hx
    have:=h2 i x a hx ha
    simp only[List.take_succ_cons,cC,hn,List.cons_append,List.nil_append,List.length_cons,List.getElem?_cons_succ]
    rw[this];congr 2;omega
   rcases p with _ | p<;>rcases q with _ | q
   ·rfl
   ·simp at hx hy;subst hx
    have:=(h1 y (List.mem_of_getElem? hy)).1;simp at he;omega
   ·simp at hx hy;subst hy
    have:=(h1 x (List.mem_of_getElem? hx)).1;simp at he;omega
   simp at hx hy
   rw[h3 p q x y hx hy he]
theorem L7:∀ (rs:List Rec) (k:Nat) p,p∈cC k rs→∃ i x,p.1=k+i∧rs[i]?=some x∧x.new=some p.2
 | [],k,p,h=>by simp[cC] at h
 | r::rs,k,p,h=>by
  simp only[cC,List.mem_append] at h
  rcases h with h | h
  ·cases hn:r.new with
   | none=>simp[hn] at h
   | some a=>simp[hn] at h;subst h;exact⟨0,r,rfl,rfl,hn⟩
  obtain⟨i,x,h1,h2,h3⟩:=L7 rs (k+1) p h
  exact⟨i+1,x,by omega,by simpa using h2,h3⟩
def fi (l0:List AO) (news:List (Nat×AO)) (L:Nat→Bool):List AO:=l0++news.map fun p=>if L p.1=true then p.2 else .dead
theorem Vl {l0:List AO} {news:List (Nat×AO)} {L:Nat→Bool} {p:Nat} {k:Nat} {a:AO} (h:news[p]?=some (k,a)):(fi l0 news L)[l0.length+p]?=some (if L k=true then a else .dead):=by
 unfold fi
 rw[List.getElem?_append_right (by omega),Nat.add_sub_cancel_left,List.getElem?_map,h];rfl
theorem afC {l0:List AO} {news:List (Nat×AO)} {L:Nat→Bool}:fw l0 (fi l0 news L):=fun _ an=>List.getElem?_append_left an
theorem afE {l0:List AO} {news:List (Nat×AO)} {L L':Nat→Bool} {p k:Nat} {a:AO} (h:news[p]?=some (k,a)) (hu:∀ q x,news[q]?=some x→x.1=k→q=p) (hL:∀ j,L' j=if j=k then true else L j) :
  (fi l0 news L).set (l0.length+p) a=fi l0 news L':=by
 apply List.ext_getElem?
 intro i
 rw[List.getElem?_set]
 by_cases hi:l0.length+p=i
 ·subst hi
  rw[if_pos rfl,if_pos (by unfold fi;have:=(List.getElem?_eq_some_iff.1 h).1;simp;omega),Vl h,hL k];simp
 rw[if_neg hi]
 unfold fi
 by_cases h0:i < l0.length
 ·rw[List.getElem?_append_left h0,List.getElem?_append_left h0]
 rw[List.getElem?_append_right (by omega),List.getElem?_append_right (by omega),List.getElem?_map,List.getElem?_map]
 cases hx:news[i - l0.length]? with
 | none=>rfl
 | some x=>
  have:x.1≠k:=fun e=>hi (by have:=hu _ x hx e;omega)
  simp[hL,this]
theorem afD {l0:List AO} {news:List (Nat×AO)} {L L':Nat→Bool} (h:∀ x∈news,L x.1=L' x.1):fi l0 news L=fi l0 news L':=by
 unfold fi
 congr 1
 apply List.map_congr_left
 intro x hx
 rw[h x hx]
end Go.aj
namespace Go.aj
open Go Go.RowKit
variable [bh] [cd]
theorem Ra {α:Type} [DecidableEq α]:∀ (l:List α) (f:α→Bool) (i:α),l.Nodup→i∈l→f i=true→(l.filter fun k=>f k&&decide (k≠i)).length+1=(l.filter f).length
 | [],f,i,_,hi,_=>by cases hi
 | x::l,f,i,hn,hi,hf=>by
  have hx:x∉l:=(List.nodup_cons.1 hn).1
  by_cases h:x=i
  ·subst h
   have:l.filter (fun k=>f k&&decide (k≠x))=l.filter f:=by
    apply List.filter_congr
    intro k hk
    have:k≠x:=fun e=>hx (e▸hk)
    simp[this]
   have:=congrArg List.length this
   simp at this
   simp[hf,this]
  have dN:i∈l:=by
   rcases List.mem_cons.1 hi with e | e
   ·exact absurd e.symm h
   exact e
  have ih:=Ra l f i (List.nodup_cons.1 hn).2 dN hf
  cases hfx:f x<;>simp[hfx,h]<;>simp at ih<;>omega
def nu (N:Nat) (listed:Array Bool):Nat:=((List.range N).filter fun i=> !listed.getD i false).length
theorem NI {N i:Nat} {listed:Array Bool} (hs:listed.size=N) (hi:i < N) (hu:listed.getD i false=false):nu N (listed.setIfInBounds i true)+1=nu N listed:=by
 unfold nu
 rw[←Ra (List.range N) (fun i=> !listed.getD i false) i List.nodup_range (List.mem_range.2 hi) (by simp only[hu];rfl)]
 congr 2
 apply List.filter_congr
 intro k hk
 have hk:=List.mem_range.1 hk
 simp only[Array.getD_eq_getD_getElem?,Array.getElem?_setIfInBounds]
 by_cases h:i=k
 ·subst h;simp[hs,hi]
 simp[h,Ne.symm h]
theorem DH {N i k:Nat} {listed:Array Bool} (hs:listed.size=N) (hi:i < N):(listed.setIfInBounds i true).getD k false=if k=i then true else listed.getD k false:=by
 simp only[Array.getD_eq_getD_getElem?,Array.getElem?_setIfInBounds]
 by_cases h:i=k
 ·subst h;simp[hs,hi]
 simp[h,Ne.symm h]
theorem aaS {N i:Nat} {listed:Array Bool} (hs:listed.size=N) (hi:i < N):listed.getD i true=listed.getD i false:=by
 simp[Array.getD_eq_getD_getElem?,Array.getElem?_eq_getElem (show i < listed.size by omega)]
section
variable {P:Program} {V:Env} {w0:World} {I0:aw} {n:Nat} {md:Way} {ops:List Oper} {Q:Exit→Act→World→Prop} {K:St→Prop}
theorem AU (h:p9 ops=true) {i:Nat} {o:Oper} (ho:ops[i]?=some o):∀ j∈waits o,j < i:=by
 have:=List.all_eq_true.1 h i (List.mem_range.2 (List.getElem?_eq_some_iff.1 ho).1)
 simp only[ho,List.all_eq_true,decide_eq_true_eq] at this
 exact this
theorem tail_at {n1:Nat} (h:aiK ops n1=true) {i:Nat} {o:Oper} (ho:ops[i]?=some o) (hi:n1≤i):∀ j,j < i→j∈waits o:=by
 intro j hj
 have:=List.all_eq_true.1 h i (List.mem_range.2 (List.getElem?_eq_some_iff.1 ho).1)
 simp only[ho,Bool.or_eq_true,decide_eq_true_eq,List.all_eq_true,List.mem_range,List.contains_iff_mem] at this
 rcases this with h | h
 ·omega
 exact h j hj
theorem wk {n1:Nat} (h:tN ops n1=true) {i j:Nat} {o q:Oper} (hi:i < n1) (hj:j < n1) (ho:ops[i]?=some o) (hq:ops[j]?=some q) {d:Nat} (hd:q.dst=some d) :
  (i≠j→o.dst≠some d)∧(d∈iN ops o→j < i∧j∈waits o):=by
 have:=List.all_eq_true.1 h i (List.mem_range.2 hi)
 simp only[ho] at this
 have:=List.all_eq_true.1 this j (List.mem_range.2 hj)
 simp only[hq,hd,Bool.and_eq_true,Bool.or_eq_true,decide_eq_true_eq,Bool.not_eq_true',bne_iff_ne,ne_eq,List.contains_iff_mem] at this
 obtain⟨h1,h2⟩:=this
 refine⟨fun bc=>h1.resolve_left bc,fun hr=>?_⟩
 rcases h2 with h2 | h2
 ·have:=List.contains_iff_mem.2 hr
  rw[h2] at this;cases this
 exact h2
theorem tQ {listed:Array Bool} {i:Nat} (hs:listed.size=ops.length) (hi:i < ops.length) {o:Oper} (ho:ops[i]?=some o):i∈Region.ready .any ops.toArray listed↔listed.getD i false=false∧∀ j∈waits o,listed.getD j false=true:=by
 rw[mem_ready]
 rw[aaS hs hi]
 refine and_congr_right fun _=>⟨?_,fun h=>⟨o,by simpa using ho,fun e he hb=>h e.on ?_⟩⟩
 ·rintro⟨o',bK,h⟩ j hj
  have:o'=o:=by simp[ho] at bK;exact bK.symm
  subst this
  obtain⟨e,he,rfl⟩:=List.mem_map.1 hj
  have he:=List.mem_filter.1 he
  exact h e (by simpa using he.1) he.2
 exact List.mem_map.2 ⟨e,List.mem_filter.2 ⟨by simpa using he,hb⟩,rfl⟩
theorem B3 {listed:Array Bool} {i:Nat} (h:i∈Region.ready .any ops.toArray listed):i < ops.length:=by
 obtain⟨_,o,ho,_⟩:=mem_ready.1 h
 have:=(Array.getElem?_eq_some_iff.1 ho).1
 simpa using this
structure Inv (w0:World) (I0:aw) (n n1:Nat) (ops:List Oper) (s0:St) (rs:List Rec) (listed:Array Bool) (a:Act) (w:World):Prop where
 size:a.tmps.size=n
 rel:∃ I m,aF w0 I0 w I m (fi s0.l (cC 0 rs) fun i=>listed.getD i false)∧fJ w0.heap.size I a.defers ∧
  (∀ (i:Nat) o x d,i < n1→ops[i]?=some o→rs[i]?=some x→listed.getD i false=true→o.dst=some d→aq I m (fi s0.l (cC 0 rs) fun i=>listed.getD i false) (a.tmps.getD d undef) x.out) ∧
  (∀ d,(∀ (i:Nat) o,i < n1→ops[i]?=some o→listed.getD i false=true→o.dst≠some d)→aq I m (fi s0.l (cC 0 rs) fun i=>listed.getD i false) (a.tmps.getD d undef) (get s0.t d))
end
end Go.aj
namespace Go.aj
open Go Go.RowKit
variable [bh] [cd]
def aw.gS (I:aw) (D:Nat):aw:=⟨I.cell,I.mp,fun b=>I.df b∧b≠D⟩
theorem Rd.gS {I:aw} {D:Nat} {v:Value} {d:aj.D} (h:Rd I v d):Rd (I.gS D) v d:=Rd.vQ (J:=I.gS D) (I:=I) (fun _ _ _ h=>h) (fun _ _ h=>h) h
theorem aq.gS {I:aw} {m:Nat→Value} {l:List AO} {D:Nat} {v:Value} {t:T} (h:aq I m l v t):aq (I.gS D) m l v t:=by
 induction h with
 | undef v=>exact .undef v
 | d v x r=>exact .d v x r.gS
 | bC s=>exact .bC s
 | ptr id b off h1 h2=>exact .ptr id b off h1 h2
 | bw b o size els k off val h1 h2 h3 h4=>exact .bw b o size els k off val h1 h2 h3 (fun j x hx=>(h4 j x hx).gS)
 | row A n c id h1 h2=>exact .row A n c id h1 h2
 | bD A n c id x h1 h2 h3=>exact .bD A n c id x h1 h2 h3.gS
 | bf a id k off h1 h2=>exact .bf a id k off h1 h2
 | map r id h1 h2=>exact .map r id h1 h2
 | aI vs ts h1 _ ih=>exact .aI vs ts h1 ih
 | cond v pc t _ hn ih=>exact .cond v pc t ih hn
 | aL g vs ts h1 _ ih=>exact .aL g vs ts h1 ih
 | bd id b h1 h2=>exact .bd id b h1 h2
 | bL id b n c h1 h2 h3 h4=>exact .bL id b n c h1 h2 h3 h4
 | sub A n c id lo hi h1 h2=>exact .sub A n c id lo hi h1 h2
 | agg vs ts h1 h2 _ ih=>exact .agg vs ts h1 h2 ih
theorem aF.shut {w0 w:World} {I0 I:aw} {m:Nat→Value} {l:List AO} (h:aF w0 I0 w I m l) {D:Nat} (hD:I.df D) (hB:w0.heap.size≤D) (o':Obj):aF w0 I0 (w.putObj D o') (I.gS D) m l:=by
 have aN:=h.sat.mr hD
 have kR:∀ b,b≠D→(w.putObj D o').heap[b]?=w.heap[b]?:=fun b hb=>World.putObj_heap_other hb
 have fC:∀ {b o v},I.cell b o=some v→b≠D:=fun {b o v} hc e=>by
  subst e
  have:=h.sat.cell b o v hc
  unfold World.cell? at this
  rw[h.sat.df b hD] at this;simp at this
 have xA:∀ {b es},I.mp b=some es→b≠D:=fun {b es} hc e=>by
  subst e
  have:=(h.sat.mp b es hc).1
  rw[h.sat.df b hD] at this;cases this
 refine⟨h.below.trans ⟨rfl,rfl,rfl,by simp,fun k hk=>kR k (by omega),fun _=>Nat.le_refl _⟩,⟨fun b o v hc=>?_,fun b es hc=>gd.to (kR b (xA hc)) (h.sat.mp b es hc),fun b hd=>(kR b hd.2).trans (h.sat.df b hd.1),fun g d hg=>(h.sat.dA g d hg).gS⟩,
  ⟨h.ext.lc,h.ext.lm,fun b hb hd=>⟨h.ext.ld b hb hd,by omega⟩,h.ext.cell,h.ext.mp⟩,fun id o ho=>?_,h.sep⟩
 ·exact(World.cell?_of_block (w:=w) (a:=⟨b,o,none⟩) (kR b (fC hc))).trans (h.sat.cell b o v hc)
 have oF:=h.obj id o ho
 by_cases zX:o = .dead
 ·subst zX;trivial
 have hw:∀ b,own (m id)=some b→(w.putObj D o').heap[b]?=w.heap[b]?:=fun b hb=>kR b (fun e=>by subst e;exact oF.oS h.sat zX hb hD)
 cases o with
 | dead=>trivial
 | var ty cs=>
  obtain⟨b,vs,q0,q1,q2,q3,q4,q5⟩:=oF
  exact⟨b,vs,q0,q1,(hw b (by rw[q0];rfl)).trans q2,q3,fun i x t hx ht=>⟨(q4 i x t hx ht).1.gS,(q4 i x t hx ht).2⟩,q5⟩
 | row e size els=>
  obtain⟨xs,q1,q2,q3,q4⟩:=oF
  exact⟨xs,FG q1 hw,q2,fun j x y hx hy=>(q3 j x y hx hy).gS,q4⟩
 | bx e size els=>
  obtain⟨xs,q1,q2,q3,q4⟩:=oF
  exact⟨xs,FG q1 hw,q2,fun j x y hx hy=>(q3 j x y hx hy).gS,q4⟩
 | map ks vs=>
  obtain⟨b,es,q0,q1,q2,q3,q4,q5,q6,q7⟩:=oF
  exact⟨b,es,q0,q1,gd.to (hw b (by rw[q0];rfl)) q2,q3,q4,fun i e d he hd=>(q5 i e d he hd).gS,fun i e d he hd=>(q6 i e d he hd).gS,q7⟩
 | eP ks vs=>
  obtain⟨b,es,q0,q1,q2,q3,q4,q5,q6,q7,q8⟩:=oF
  exact⟨b,es,q0,q1,gd.to (hw b (by rw[q0];rfl)) q2,q3,q4,fun i e d he hd=>(q5 i e d he hd).gS,fun i e d he hd=>(q6 i e d he hd).gS,q7,q8⟩
 | iter ks vs done=>
  obtain⟨b,mb,es,seen,q0,q1,q2,q3,q4,q5,q6,q7,q8,q9⟩:=oF
  exact⟨b,mb,es,seen,q0,q1,(hw b (by rw[q0];rfl)).trans q2,q3,q4,q5,fun i e d he hd=>(q6 i e d he hd).gS,fun i e d he hd=>(q7 i e d he hd).gS,q8,q9⟩
 | frame base vals t=>exact⟨oF.1,oF.2.1,fun k=>(oF.2.2 k).gS⟩
 | loop base n ps bp body t st eu=>
  obtain⟨b,r,q0,q1,q2,q3,q4,q5,q6⟩:=oF
  exact⟨b,r,q0,q1,(hw b (by rw[q0];rfl)).trans q2,q3,q4,fun k=>(q5 k).gS,q6⟩
theorem W1 {P:Program} {F:Fence} {n:Nat} {w0:World} {I0:aw} {m:Nat→Value} {l:List AO}:∀ (Ds:List Nat) (w:World) (I:aw),aF w0 I0 w I m l→Ds.Nodup→(∀ D∈Ds,w0.heap.size≤D∧I.df D) →
  ∃ w' J,aF w0 I0 w' J m l∧(∀ b,b∉Ds→I.df b→J.df b)∧(∀ v t,aq I m l v t→aq J m l v t)∧∀ (fn:Func) (tmps:Array Value) (R:Ending→World→Prop),(∃ v,(results fn tmps).run P w' = .ok v w'∧R (.returned v) w')→LeavesInM F n P fn tmps R (Ds.map mark) .returning w
 | [],w,I,h,_,_=>⟨w,I,h,fun _ _ h=>h,fun _ _ h=>h,fun _ _ _ hr=>hr⟩
 | D::Ds,w,I,h,fN,ff=>by
  obtain⟨hB,hD⟩:=ff D (by simp)
  obtain⟨iW,hn2⟩:=List.nodup_cons.1 fN
  obtain⟨w',J,r1,r2,r3,r4⟩:=W1 (P:=P) (F:=F) (n:=n) Ds (w.putObj D (.deferred none)) (I.gS D) (h.shut hD hB _) hn2 fun x hx=>⟨(ff x (by simp[hx])).1,(ff x (by simp[hx])).2,fun e=>iW (e▸hx)⟩
  refine⟨w',J,r1,fun b hb hd=>r2 b (fun hm=>hb (by simp[hm])) ⟨hd,fun e=>hb (by simp[e])⟩,fun v t hv=>r3 v t hv.gS,fun fn tmps R hr=>?_⟩
  exact⟨by simp,.inl ⟨D,_,rfl,run_takeDeferred (h.sat.df D hD),r4 fn tmps R hr⟩⟩
theorem Ip {P:Program} {f:FuncId} {fn:Func} {c:Code} {args:Array Value} {w:World} {R:Ending→World→Prop} (lK:cd.r=none) (hf:P.funcs[f]?=some fn) (hb:fn.body=some c)
  (h:c.wpIn eC 0 P (bodyPostM eC 0 P fn R) { tmps:=args++Array.replicate (fn.ntmps - args.size) undef,defers:=[] } w):Calls P f args w R:=by
 have e:eC=Fence.wide:=by unfold eC;rw[lK];rfl
 rw[e] at h
 exact(callsIn_wide (n:=0)).1 (callsIn_of_wp_marks hf hb trivial h)
theorem IQ {P:Program} {fn:Func} {e:Exit} {a:Act} {w0 w:World} {I0 I:aw} {m:Nat→Value} {l:List AO} (he:e = .ret∨e = .normal) (h:aF w0 I0 w I m l) (hd:fJ w0.heap.size I a.defers) :
  ∃ w' J,aF w0 I0 w' J m l∧(∀ b,cd.iZ b→J.df b)∧(∀ v t,aq I m l v t→aq J m l v t)∧∀ (R:Ending→World→Prop),(∃ v,(results fn a.tmps).run P w' = .ok v w'∧R (.returned v) w')→bodyPostM eC 0 P fn R e a w:=by
 obtain⟨Ds,h1,h2,h3,h4⟩:=hd
 obtain⟨w',J,r1,r2,r3,r4⟩:=W1 (P:=P) (F:=eC) (n:=0) Ds w I h h2 fun D hD=>⟨(h3 D hD).1,(h3 D hD).2.2⟩
 refine⟨w',J,r1,fun b hk=>r2 b (fun hm=>(h3 b hm).2.1 hk) (h4 b hk),r3,fun R hr=>?_⟩
 have:=r4 fn a.tmps R hr
 rw[←h1] at this
 rcases he with rfl | rfl<;>exact this
end Go.aj
namespace Go.aj
open Go Go.RowKit
variable [bh] [cd]
def aV (P:Program) (w0:World) (I0:aw) (n:Nat) (c:Code) (s:St) (Q:Exit→St→Prop):Prop:=
 ∀ a w,Rel w0 I0 n s a w→c.wpIn eC 0 P (fun e a' w'=>∃ s',Q e s'∧Rel w0 I0 n s' a' w') a w
def Sub (s s':St):Prop:=∀ w0 I0 n a w,Rel w0 I0 n s a w→Rel w0 I0 n s' a w
theorem Sub.refl (s:St):Sub s s:=fun _ _ _ _ _ h=>h
section
variable {P:Program} {V:Env} {w0:World} {I0:aw} {n:Nat} {Q Q':Exit→St→Prop} {s s':St} {x y:Code}
theorem aV.mono (h:aV P w0 I0 n x s Q) (hq:∀ e s,Q e s→Q' e s):aV P w0 I0 n x s Q':=fun a w hr=>
 Code.wpIn_mono (fun e _ _ ⟨s',h1,h2⟩=>⟨s',hq e s' h1,h2⟩) (h a w hr)
theorem aV.sub (hs:Sub s s') (h:aV P w0 I0 n x s' Q):aV P w0 I0 n x s Q:=fun a w hr=>h a w (hs _ _ _ _ _ hr)
def Ck (K:St→Prop) (Q:Exit→St→Prop):Exit→St→Prop
 | .normal,s=>K s
 | e,s=>Q e s
theorem aV.seq (h:aV P w0 I0 n x s (Ck (fun s'=>aV P w0 I0 n y s' Q) Q)):aV P w0 I0 n (x.seq y) s Q:=fun a w hr=>
 wpIn_seq (Code.wpIn_mono (fun e a' w' ⟨s',h1,h2⟩=>by
  cases e<;>first | exact h1 a' w' h2 | exact⟨s',h1,h2⟩) (h a w hr))
@[reducible] def cD:cd:=⟨none,fun _=>False⟩
def OG:T→Option Bool
 | .d (.bool b)=>some b
 | _=>none
theorem aV.cond {c:Operand} {b:Bool} (hc:OG (bR s.t c)=some b) (h1:b=true→aV P w0 I0 n x s Q) (h2:b=false→aV P w0 I0 n y s Q):aV P w0 I0 n (.cond c x y) s Q:=fun a w hr=>by
 have ju:=hr
 obtain⟨_,I,m,hw,_,ht⟩:=ju
 have hv:=qN hw.sat.dA ht c
 have iG:bR s.t c = .d (.bool b):=by
  unfold OG at hc
  split at hc
  ·rename_i b' hb;injection hc with hc;rw[hb,hc]
  cases hc
 rw[iG] at hv
 have:=cy hv
 generalize qT:a.eval c=v at this
 cases this
 refine wpIn_cond qT ?_
 cases b with
 | true=>exact h1 rfl a w hr
 | false=>exact h2 rfl a w hr
def Tg (id:Nat) (Q:Exit→St→Prop):Exit→St→Prop
 | .exit pT,s=>if pT=id then Q .normal s else Q (.exit pT) s
 | e,s=>Q e s
theorem aV.block {id:Nat} (h:aV P w0 I0 n x s (Tg id Q)):aV P w0 I0 n (.block id x) s Q:=fun a w hr=>
 wpIn_block (Code.wpIn_mono (fun e a' w' ⟨s',h1,h2⟩=>by
  cases e<;>first | exact⟨s',h1,h2⟩ | skip
  simp only[Tg] at h1
  simp only[Exit.inBlock]
  split<;>rename_i hh
  ·rw[if_pos hh] at h1;exact⟨s',h1,h2⟩
  rw[if_neg hh] at h1;exact⟨s',h1,h2⟩) (h a w hr))
theorem aV.exit {id:Nat} (h:Q (.exit id) s):aV P w0 I0 n (.exit id) s Q:=fun _ _ hr=>wpIn_exit ⟨s,h,hr⟩
theorem aV.ret (h:Q .ret s):aV P w0 I0 n .ret s Q:=fun _ _ hr=>wpIn_ret ⟨s,h,hr⟩
theorem aV.skip (h:Q .normal s):aV P w0 I0 n .skip s Q:=fun _ _ hr=>wpIn_skip ⟨s,h,hr⟩
theorem aV.loop {X:Type} (F:X→St) (p:X→Prop) (μ:X→Nat) (x0:X) (h0:p x0) (hs:Sub s (F x0))
  (round:∀ z,p z→aV P w0 I0 n x (F z) (Ck (fun s'=>∃ z',p z'∧μ z' < μ z∧Sub s' (F z')) Q)):aV P w0 I0 n (.loop x) s Q:=fun a w hr=>by
 refine wpIn_loop_ghost (fun k a w=>∃ z,p z∧μ z=k∧Rel w0 I0 n (F z) a w) (μ x0) ⟨x0,h0,rfl,hs _ _ _ _ _ hr⟩ fun k a w ⟨z,hz,hk,hr⟩=>?_
 refine Code.wpIn_mono (fun e a' w' ⟨s',h1,h2⟩=>?_) (round z hz a w hr)
 cases e<;>first | exact⟨s',h1,h2⟩ | skip
 obtain⟨z',q1,q2,q3⟩:=h1
 exact⟨μ z',by omega,z',q1,rfl,q3 _ _ _ _ _ h2⟩
def jF (V:Env) (s:St):ResultVar→T×Prop
 | .tmp t=>(get s.t t,True)
 | .cell a ty=>match iu V.E ty s.l (get s.t a) with | ⟨t,.none,ob⟩=>(t,ob) | _=>(.undef,False)
def GY (V:Env) (s:St) (rv:List ResultVar) (r:D):Prop:=
 oU (rv.map fun v=>(jF V s v).2)∧match gG s.l (rv.map fun v=>(jF V s v).1) with
  | some ([d],_)=>d=r
  | some (ds,_)=>D.aI ds=r
  | none=>False
def B5 (tmps:Array Value):ResultVar→Sem Value
 | .tmp t=>pure (tmps.getD t undef)
 | .cell b t=>do loadVar t (←asAddr (tmps.getD b undef))
theorem M7 (fn:Func) (tmps:Array Value):results fn tmps=(do
  let vs ←fn.results.mapM (B5 tmps)
  pure (if h:vs.size=1 then vs[0] else .tuple vs)):=by
 unfold results
 congr 1
theorem GW (hE:cp P V.E) {I:aw} {m:Nat→Value} {w:World} {a:Act} (hw:aF w0 I0 w I m s.l) (ht:∀ k,aq I m s.l (a.tmps.getD k undef) (get s.t k)):∀ (rv:List ResultVar),oU (rv.map fun v=>(jF V s v).2) →
  ∃ vs:List Value,(rv.mapM (B5 a.tmps)).run P w = .ok vs w∧vs.length=rv.length∧∀ (i:Nat) v t,vs[i]?=some v→(rv.map fun v=>(jF V s v).1)[i]?=some t→aq I m s.l v t
 | [],_=>⟨[],by simp,rfl,by simp⟩
 | q::rv,h=>by
  obtain⟨h1,h2⟩:=h
  obtain⟨vs,k1,k2,k3⟩:=GW hE hw ht rv h2
  have hd:∃ v,(B5 a.tmps q).run P w = .ok v w∧aq I m s.l v (jF V s q).1:=by
   cases q with
   | tmp t=>exact⟨_,by simp[B5],ht t⟩
   | cell b ty=>
    simp only[jF] at h1 ⊢
    have hx:=ht b
    split at h1
    ·rename_i t ob hl
     obtain⟨_,u,q1,q2⟩:=Uw hE hw (fw.refl _) (ty:=ty) hx (by rw[hl];exact h1)
     rw[hl] at q2
     refine⟨u,?_,by simpa [hl] using q2⟩
     have:∃ ad,a.tmps.getD b undef = .pointer (some ad):=by
      generalize a.tmps.getD b undef=v at hx
      generalize get s.t b=tb at hx hl
      cases hx<;>first | exact⟨_,rfl⟩ | (simp only[iu,R.bad,R.mk.injEq] at hl;rw[←hl.2.2] at h1;exact h1.elim)
     obtain⟨ad,RW⟩:=this
     rw[RW] at q1
     simp only[Instr.loadAt,Instr.sureAddr,Sem.run_bind,Sem.run_pure,Result.andThen_ok] at q1
     simp only[B5,RW,asAddr,Sem.run_bind,Sem.run_pure,Result.andThen_ok]
     exact q1
    exact h1.elim
  obtain⟨v,q1,q2⟩:=hd
  refine⟨v::vs,?_,by simp[k2],fun i u t hu hT=>?_⟩
  ·rw[List.mapM_cons]
   simp only[Sem.run_bind,q1,Result.andThen_ok,k1,Sem.run_pure]
  rcases i with _ | i
  ·simp at hu hT;subst hu;subst hT;exact q2
  simp at hu hT;exact k3 i u t hu (by simpa using hT)
def pe:Nat→List D→Tm
 | _,[]=>[]
 | k,d::ds=>(k,.d d)::pe (k+1) ds
theorem Xg:∀ (ds:List D) (k j:Nat),get (pe k ds) j=if k≤j then(match ds[j - k]? with | some d=> .d d | none=> .undef) else .undef
 | [],k,j=>by simp[pe,get]
 | d::ds,k,j=>by
  simp only[pe,get]
  by_cases h:k=j
  ·subst h;simp
  rw[if_neg h,Xg ds (k+1) j]
  by_cases h1:k≤j
  ·rw[if_pos (by omega),if_pos h1,show j - k=(j - (k+1))+1 by omega];simp
  rw[if_neg (by omega),if_neg h1]
def nr:Nat→List T→Tm
 | _,[]=>[]
 | k,t::ts=>(k,t)::nr (k+1) ts
theorem Nl:∀ (ts:List T) (k j:Nat),get (nr k ts) j=if k≤j then(ts[j - k]?).getD .undef else .undef
 | [],k,j=>by simp[nr,get]
 | d::ds,k,j=>by
  simp only[nr,get]
  by_cases h:k=j
  ·subst h;simp
  rw[if_neg h,Nl ds (k+1) j]
  by_cases h1:k≤j
  ·rw[if_pos (by omega),if_pos h1,show j - k=(j - (k+1))+1 by omega];simp
  rw[if_neg (by omega),if_neg h1]
def Ny:List T→T
 | [t]=>t
 | ts=> .aI ts
def wV (V:Env) (s2:St) (rv:List ResultVar) (base:Nat) (vals:Nat→Value) (ft:Tm) (K:T→List AO→Prop):Prop:=
 ∃ s3,Sub s2 s3∧oU (rv.map fun v=>(jF V s3 v).2)∧s3.l[base]?=some (.frame base vals ft)∧K (Ny (rv.map fun v=>(jF V s3 v).1)) s3.l
theorem qC.of {f:FuncId} {fn:Func} {c:Code} {ts:List T} {l:List AO} {K:T→List AO→Prop} (hV:dI P V) (hZ:Enters P f) (hf:P.funcs[f]?=some fn) (hb:fn.body=some c) (hn:ts.length≤fn.ntmps)
  (h:∀ (R:cd),R.r=none→∀ w0 I0 vals ft (Q:Exit→St→Prop),(∀ e s2,(e = .ret∨e = .normal)→wV V s2 fn.results.toList l.length vals ft K→Q e s2)→aV P w0 I0 fn.ntmps c ⟨nr 0 ts,l++[.frame l.length vals ft]⟩ Q):qC P f ts l K:=by
 refine⟨hZ,fun w0 I0 w I m args vals ft ah hlen c9 qW=>?_⟩
 let R:cd:=⟨none,I.df⟩
 refine Ip (R:=fun e w'=>∃ v,e = .returned v∧∃ t l' J m',K t l'∧aF w0 I0 w' J m' l'∧aq J m' l' v t∧(∀ b,I.df b→J.df b)∧∀ k,aq J m' l' (vals k) (get ft k)) rfl hf hb ?_
 have pS:aF w0 I0 w I (aP m l.length (.bool false)) (l++[.frame l.length vals ft])∧Le I m l I (aP m l.length (.bool false)) (l++[.frame l.length vals ft]):=by
  have bF:∀ k,k < l.length→(l++[AO.frame l.length vals ft])[k]?=l[k]?:=fun k hk=>List.getElem?_append_left hk
  have lI:(l++[AO.frame l.length vals ft])[l.length]?=some (.frame l.length vals ft):=by simp
  have hle:Le I m l I (aP m l.length (.bool false)) (l++[.frame l.length vals ft]):=by
   refine⟨.refl I,by simp,fun id an hv=>⟨?_,cO m _ (by omega)⟩,fun id an hr=>⟨?_,cO m _ (by omega)⟩,fun id e' s' els' an hh=>⟨els',?_⟩⟩
   ·unfold isVar at hv ⊢;rw[bF id an];exact hv
   ·unfold isRow at hr ⊢;rw[bF id an] at hr;exact hr
   rw[bF id an] at hh;exact hh
  have cW:∀ k,k≠l.length→alive (l++[AO.frame l.length vals ft]) k=true→alive l k=true:=by
   intro k hk ha
   obtain⟨o,ho,hd⟩:=bN.1 ha
   have fL:k < l.length:=by have:=(List.getElem?_eq_some_iff.1 ho).1;simp at this;omega
   rw[bF k fL] at ho
   exact bN.2 ⟨o,ho,hd⟩
  refine⟨⟨ah.below,ah.sat,ah.ext,fun id o ho=>?_,fun i j b cm hi hj cI cJ=>?_⟩,hle⟩
  ·by_cases an:id < l.length
   ·rw[bF id an] at ho;rw[cO m _ (by omega)]
    by_cases hd:o = .dead
    ·subst hd;trivial
    exact(ah.obj id o ho).iZ hle (fun _ _=>rfl) (fun _ _=>⟨rfl,rfl⟩)
   have:id=l.length:=by
    have:=(List.getElem?_eq_some_iff.1 ho).1;simp at this;omega
   subst this
   rw[lI] at ho;injection ho with ho;subst ho
   rw[fH]
   refine⟨rfl,by simp,fun k=>?_⟩
   have e:(l++[AO.frame l.length vals ft]).take l.length=l:=by simp
   rw[e]
   refine(qW k).mono ⟨.refl I,Nat.le_refl _,fun id an hv=>⟨hv,cO m _ (by omega)⟩,fun id an hr=>⟨hr,cO m _ (by omega)⟩,fun id e' s' els' an hh=>⟨els',hh⟩⟩
  by_cases h1:i=l.length
  ·subst h1;rw[fH] at cI;cases cI
  by_cases h2:j=l.length
  ·subst h2;rw[fH] at cJ;cases cJ
  rw[cO m _ h1] at cI;rw[cO m _ h2] at cJ
  exact ah.sep i j b cm (cW i h1 hi) (cW j h2 hj) cI cJ
 obtain⟨pS,hle⟩:=pS
 have vg:Rel w0 I0 fn.ntmps ⟨nr 0 ts,l++[.frame l.length vals ft]⟩ { tmps:=args++Array.replicate (fn.ntmps - args.size) undef,defers:=[] } w:=by
  refine⟨by simp;omega,I,_,pS,fJ.nil fun _ h=>h,fun k=>?_⟩
  rw[Nl]
  simp only[Nat.zero_le,if_true,Nat.sub_zero]
  cases hd:ts[k]? with
  | none=>exact .undef _
  | some d=>
   have hk:k < args.size:=by rw[hlen];exact(List.getElem?_eq_some_iff.1 hd).1
   have hv:args[k]?=some args[k]:=Array.getElem?_eq_getElem hk
   have:(args++Array.replicate (fn.ntmps - args.size) undef).getD k undef=args[k]:=by
    rw[Array.getD_eq_getD_getElem?,Array.getElem?_append_left hk,hv];rfl
   rw[this]
   exact(c9 k _ d hv hd).mono hle
 refine Code.wpIn_mono (fun e a w1 ⟨s2,⟨he,s3,mS,ae,eK,hk⟩,hr⟩=>?_) (h R rfl w0 I0 vals ft (fun e s2=>(e = .ret∨e = .normal)∧wV V s2 fn.results.toList l.length vals ft K) (fun e s2 he hx=>⟨he,hx⟩) _ _ vg)
 obtain⟨_,J1,m',j0,dY,vh⟩:=mS _ _ _ _ _ hr
 obtain⟨w',J,hw,Ab,z6,dM⟩:=IQ (P:=P) (fn:=fn) (a:=a) he j0 dY
 refine dM _ ?_
 have ht:∀ k,aq J m' s3.l (a.tmps.getD k undef) (get s3.t k):=fun k=>z6 _ _ (vh k)
 obtain⟨jH,q1,q2,q3⟩:=GW (P:=P) hV.E hw ht fn.results.toList ae
 have bP:(results fn a.tmps).run P w' = .ok (if h:jH.length=1 then jH[0] else .tuple jH.toArray) w':=by
  rw[M7]
  simp only[Sem.run_bind,Array.mapM_eq_mapM_toList,Sem.run_map,q1,Result.andThen_ok,Sem.run_pure]
  simp
 have mh:=hw.obj _ _ eK
 refine⟨_,bP,_,rfl,_,_,J,m',hk,hw,?_,Ab,fun k=>(mh.2.2 k).mono (Le.Ht J m' s3.l l.length)⟩
 have dQ:jH.length=(fn.results.toList.map fun v=>(jF V s3 v).1).length:=by simp[q2]
 generalize (fn.results.toList.map fun v=>(jF V s3 v).1)=tl at dQ q3
 match tl,dQ with
 | [t],dQ=>
  have J8:jH.length=1:=dQ
  rw[dif_pos J8]
  exact q3 0 _ t (List.getElem?_eq_getElem (by omega)) rfl
 | [],dQ=>
  rw[dif_neg (by simp at dQ;simp[dQ])]
  exact .aI _ _ (by simpa using dQ) (fun i v d hv hd=>q3 i v d (by simpa using hv) hd)
 | t1::t2::tr,dQ=>
  rw[dif_neg (by rw[dQ];simp)]
  exact .aI _ _ (by simpa using dQ) (fun i v d hv hd=>q3 i v d (by simpa using hv) hd)
theorem gg.of {f:FuncId} {fn:Func} {c:Code} {ds:List D} {r:D} (hV:dI P V) (hf:P.funcs[f]?=some fn) (hb:fn.body=some c) (hn:ds.length≤fn.ntmps)
  (h:∀ (R:cd),R.r=none→∀ w0 I0,aV P w0 I0 fn.ntmps c ⟨pe 0 ds,[]⟩ fun e s=>(e = .ret∨e = .normal)∧GY V s fn.results.toList r):gg P f ds r:=by
 intro w I vs du hlen ch
 let R:cd:=⟨none,I.df⟩
 refine Ip (R:=fun e w'=>∃ v J,e = .returned v∧eB w.heap.size w w'∧gE w.heap.size I J∧dH w' J∧Rd J v r) rfl hf hb ?_
 have ah:Rel w I fn.ntmps ⟨pe 0 ds,[]⟩ { tmps:=vs++Array.replicate (fn.ntmps - vs.size) undef,defers:=[] } w:=by
  refine⟨by simp;omega,I,fun _=>undef,⟨eB.refl _ _,du,gE.refl _ _,by simp,by simp[alive,isVar,isRow]⟩,fJ.nil fun _ h=>h,fun k=>?_⟩
  rw[Xg]
  simp only[Nat.zero_le,if_true,Nat.sub_zero]
  cases hd:ds[k]? with
  | none=>exact .undef _
  | some d=>
   have hk:k < vs.size:=by rw[hlen];exact(List.getElem?_eq_some_iff.1 hd).1
   have hv:vs[k]?=some vs[k]:=Array.getElem?_eq_getElem hk
   have:(vs++Array.replicate (fn.ntmps - vs.size) undef).getD k undef=vs[k]:=by
    rw[Array.getD_eq_getD_getElem?,Array.getElem?_append_left hk,hv];rfl
   rw[this]
   exact .d _ _ (ch k _ d hv hd)
 refine Code.wpIn_mono (fun e a w1 ⟨s,⟨he,ae,Eh⟩,hr⟩=>?_) (h R rfl w I _ _ ah)
 obtain⟨_,J1,m,j0,dY,vh⟩:=hr
 obtain⟨w',J,hw,_,z6,dM⟩:=IQ (P:=P) (fn:=fn) (a:=a) he j0 dY
 refine dM _ ?_
 have ht:∀ k,aq J m s.l (a.tmps.getD k undef) (get s.t k):=fun k=>z6 _ _ (vh k)
 obtain⟨jH,q1,q2,q3⟩:=GW (P:=P) hV.E hw ht fn.results.toList ae
 have fin:∃ v,(results fn a.tmps).run P w' = .ok v w'∧∃ J',gE w.heap.size I J'∧dH w' J'∧Rd J' v r:=by
  have bP:(results fn a.tmps).run P w' = .ok (if h:jH.length=1 then jH[0] else .tuple jH.toArray) w':=by
   rw[M7]
   simp only[Sem.run_bind,Array.mapM_eq_mapM_toList,Sem.run_map,q1,Result.andThen_ok,Sem.run_pure]
   simp
  refine⟨_,bP,?_⟩
  split at Eh
  ·rename_i d l' hd
   obtain⟨J',le,r1,hl,Kr,_⟩:=qF _ _ _ jH [d] l' hw (by simp[q2]) q3 hd
   subst Eh
   have hl:jH.length=1:=hl
   refine⟨J',r1.ext,r1.sat,?_⟩
   rw[dif_pos hl]
   exact Kr 0 _ d (List.getElem?_eq_getElem (by omega)) rfl
  ·rename_i ox l' bc hd
   obtain⟨J',le,r1,hl,Kr,_⟩:=qF _ _ _ jH ox l' hw (by simp[q2]) q3 hd
   subst Eh
   refine⟨J',r1.ext,r1.sat,?_⟩
   by_cases h1:jH.length=1
   ·rw[h1] at hl
    match ox,hl with
    | [d],_=>exact(bc d rfl).elim
   rw[dif_neg h1]
   exact .aI _ _ (by simp[hl]) (fun i v d hv hd=>Kr i v d (by simpa using hv) hd)
  exact Eh.elim
 obtain⟨v,p1,J',p2,p3,p4⟩:=fin
 exact⟨v,p1,v,J',rfl,hw.below,p2,p3,p4⟩
end
end Go.aj
namespace Go.aj
open Go Go.RowKit
theorem cp.Mg {P:Program} {fS:List (Nat×TI)} (h:fS.all (fun p=>Cl P p.1 p.2)=true):cp P (fun t=>(fS.find? fun p=>p.1 == t).map (·.2)):=by
 intro t i ht
 cases hf:fS.find? (fun p=>p.1 == t) with
 | none=>simp[hf] at ht
 | some p=>
  simp[hf] at ht
  have h1:=List.find?_some hf
  have h2:=List.all_eq_true.1 h p (List.mem_of_find?_eq_some hf)
  simp at h1
  subst h1;subst ht
  exact h2
theorem Enters.of {P:Program} {f:FuncId} {fn:Func} (hf:P.funcs[f]?=some fn) (h:(fn.name == "runtime.NumGoroutine")=false∧fn.body.isNone=false):Enters P f:=by
 intro args w
 simp only[callFunc,Sem.run_bind,run_program,Result.andThen_ok,hf,h.1,h.2,Bool.false_eq_true,if_false,Sem.run_pure]
variable [bh] [cd]
section
variable {P:Program} {V:Env} {w0:World} {I0:aw} {n:Nat} {Q:Exit→St→Prop} {s s1:St} {y:Code}
end
end Go.aj
namespace Go.aj
open Go Go.RowKit
def zy (sh:TypeId→Option (List Lf)):List Field→Nat→Option (List Lf)
 | [],_=>some []
 | f::r,off=>if f.name = "_" ∨ f.offset≠off then none else match sh f.type with
  | some ls=>(match zy sh r (off+ls.length) with | some rs=>some (ls++rs) | none=>none)
  | none=>none
def pB (P:Program):Nat→TypeId→Option (List Lf)
 | 0,_=>none
 | d+1,t=>match P.info? t with
  | none=>none
  | some i=>match P.underlying t with
   | some .bool=>some [.bool]
   | some (.int k)=>some [.int k]
   | some .string=>some [.str]
   | some (.struct fs)=>if P.stoodInHeld t then none else match zy (pB P d) fs.toList 0 with
    | some ls=>if i.size=ls.length then some ls else none
    | none=>none
   | _=>none
def rD:Lf→Value→Bool
 | .bool,.bool _=>true
 | .int k,.int k' _=>k == k'
 | .str,.string _=>true
 | _,_=>false
def gB:List Lf→List Value→Bool
 | [],[]=>true
 | x::xs,d::ds=>rD x d&&gB xs ds
 | _,_=>false
def zq:Value→Value→Bool
 | .bool a,.bool b=>a == b
 | .int _ a,.int _ b=>a == b
 | .string a,.string b=>a == b
 | _,_=>false
def ji:List Value→List Value→Bool
 | [],[]=>true
 | x::xs,y::ys=>zq x y&&ji xs ys
 | _,_=>false
theorem Ly:∀ {ls:List Lf} {vs:List Value},gB ls vs=true→vs.length=ls.length
 | [],[],_=>rfl
 | _::_,_::_,h=>by simp only[gB,Bool.and_eq_true] at h;simp[Ly h.2]
 | [],_::_,h=>by simp[gB] at h
 | _::_,[],h=>by simp[gB] at h
theorem Lx:∀ {a b:List Lf} {vs:List Value},gB (a++b) vs=true→gB a (vs.take a.length)=true∧gB b (vs.drop a.length)=true
 | [],b,vs,h=>by simp[gB];exact h
 | x::a,b,v::vs,h=>by
  simp only[List.cons_append,gB,Bool.and_eq_true] at h
  obtain⟨h1,h2⟩:=Lx h.2
  simp[gB,h.1,h1,h2]
 | _::_,_,[],h=>by simp[gB] at h
theorem QU:∀ {a c:List Value} {b d:List Value},a.length=c.length→ji (a++b) (c++d)=(ji a c&&ji b d)
 | [],[],b,d,_=>by simp[ji]
 | x::a,y::c,b,d,h=>by simp only[List.cons_append,ji,QU (a:=a) (c:=c) (by simpa using h),Bool.and_assoc]
 | [],_::_,_,_,h=>by simp at h
 | _::_,[],_,_,h=>by simp at h
section
variable {P:Program}
def nm (P:Program) (t:TypeId) (vs:List Value):Value:=match P.underlying t with
 | some (.struct _)=> .agg vs.toArray
 | _=>vs.headD undef
theorem ahR {d:Nat} {t:TypeId} {ls:List Lf} (h:pB P d t=some ls):∃ i,P.info? t=some i∧((∃ fs,P.underlying t=some (.struct fs))→i.size=ls.length)∧((∀ fs,P.underlying t≠some (.struct fs))→ls.length=1)∧(∀ n e,P.underlying t≠some (.array n e))∧P.underlying t≠none:=by
 cases d with
 | zero=>simp[pB] at h
 | succ d=>
  simp only[pB] at h
  split at h
  ·cases h
  rename_i i hi
  refine⟨i,hi,?_⟩
  split at h
  ·rename_i hu;injection h with h;subst h;simp[hu]
  ·rename_i hu;injection h with h;subst h;simp[hu]
  ·rename_i hu;injection h with h;subst h;simp[hu]
  ·rename_i fs hu
   split at h
   ·cases h
   split at h
   ·split at h
    ·rename_i hs;injection h with h;subst h;simp[hu,hs]
    cases h
   cases h
  cases h
theorem WM {d:Nat} {t:TypeId} {ls:List Lf} (h:pB P d t=some ls) (xs:Array Value) (off:Nat) (hle:off+ls.length≤xs.size) (w:World) :
  (part t xs off).run P w = .ok (nm P t ((xs.toList.drop off).take ls.length)) w:=by
 obtain⟨i,hi,h1,h2,h3,h4⟩:=ahR h
 cases hu:P.underlying t with
 | none=>exact absurd hu h4
 | some desc=>
  have uP:(isAgg t).run P w = .ok (match desc with | .struct _ | .array _ _=>true | _=>false) w:=by
   unfold isAgg;simp only[Sem.run_bind,run_underlying hu,Result.andThen_ok];cases desc<;>rfl
  have aK:(sizeOf t).run P w = .ok i.size w:=by simp[sizeOf,typeInfo,hi]
  cases desc with
  | struct fs=>
   have:=h1 ⟨fs,hu⟩
   simp only[part,Sem.run_bind,uP,Result.andThen_ok,if_true,aK,Sem.run_pure,nm,hu]
   congr 2
   apply Array.toList_inj.1
   rw[Array.toList_extract]
   simp[List.extract_eq_take_drop,this]
  | array n e=>exact absurd hu (h3 n e)
  | _=>
   have uM:=h2 (by simp[hu])
   have aN:off < xs.size:=by omega
   simp only[part,Sem.run_bind,uP,Result.andThen_ok,Bool.false_eq_true,if_false,Array.getElem?_eq_getElem aN,Sem.run_pure,nm,hu]
   congr 1
   rw[uM,List.drop_eq_getElem_cons (by simpa using aN)]
   simp
theorem WJ:∀ (d D:Nat) (t:TypeId) (ls:List Lf),pB P d t=some ls→d≤D→∀ (xs ys:List Value),gB ls xs=true→gB ls ys=true→∀ w,(Op.equalIn D t (nm P t xs) (nm P t ys)).run P w = .ok (ji xs ys) w:=by
 intro d
 induction d with
 | zero=>intro D t ls h;simp[pB] at h
 | succ d ih=>
  intro D t ls h hD xs ys hx hy w
  obtain⟨D,rfl⟩:∃ D',D=D'+1:=⟨D - 1,by omega⟩
  have hs:=h
  simp only[pB] at h
  split at h
  ·cases h
  rename_i i hi
  have one:∀ {x:Lf} {vs:List Value},gB [x] vs=true→∃ v,vs=[v]∧rD x v=true:=by
   intro x vs h
   match vs,h with
   | [v],h=>simp[gB] at h;exact⟨v,rfl,h⟩
   | [],h=>simp[gB] at h
   | _::_::_,h=>simp[gB] at h
  split at h
  ·rename_i hu
   injection h with h;subst h
   obtain⟨u,rfl,eW⟩:=one hx
   obtain⟨v,rfl,bX⟩:=one hy
   cases u<;>simp[rD] at eW
   cases v<;>simp[rD] at bX
   simp only[nm,hu,List.headD,ji,zq,Bool.and_true]
   exact run_equalIn_bool w D t _ _ hu
  ·rename_i k hu
   injection h with h;subst h
   obtain⟨u,rfl,eW⟩:=one hx
   obtain⟨v,rfl,bX⟩:=one hy
   cases u<;>simp[rD] at eW
   cases v<;>simp[rD] at bX
   subst eW;subst bX
   simp only[nm,hu,List.headD,ji,zq,Bool.and_true]
   exact run_equalIn_int w D t _ _ _ _ hu
  ·rename_i hu
   injection h with h;subst h
   obtain⟨u,rfl,eW⟩:=one hx
   obtain⟨v,rfl,bX⟩:=one hy
   cases u<;>simp[rD] at eW
   cases v<;>simp[rD] at bX
   simp only[nm,hu,List.headD,ji,zq,Bool.and_true]
   rw[run_equalIn_string w D t _ _ hu,beq_toListBytes]
  ·rename_i fs hu
   split at h
   ·cases h
   rename_i c7
   split at h
   ·rename_i ls' hf
    split at h
    ·injection h with h;subst h
     have mh:P.underlying t=some (.struct (P.fieldsOf t)):=by simp[Program.fieldsOf,hu]
     have DV:P.fieldsOf t=fs:=by simp[Program.fieldsOf,hu]
     simp only[nm,hu]
     rw[run_equalIn_struct w D t _ _ mh (by simpa using c7),DV]
     have key:∀ (fl:List Field) (off:Nat) (rs:List Lf),zy (pB P d) fl off=some rs→∀ (xs ys:List Value),off+rs.length=xs.length→xs.length=ys.length→gB rs (xs.drop off)=true→gB rs (ys.drop off)=true →
       (Op.eqFields D xs.toArray ys.toArray fl).run P w = .ok (ji (xs.drop off) (ys.drop off)) w:=by
      intro fl
      induction fl with
      | nil=>
       intro off rs hr xs ys h1 h2 h3 h4
       simp[zy] at hr;subst hr
       have e1:xs.drop off=[]:=List.drop_eq_nil_of_le (by simp at h1;omega)
       have e2:ys.drop off=[]:=List.drop_eq_nil_of_le (by simp at h1;omega)
       rw[e1,e2];simp[Op.eqFields,ji]
      | cons f fl ihf=>
       intro off rs hr xs ys h1 h2 h3 h4
       simp only[zy] at hr
       split at hr
       ·cases hr
       rename_i fe
       have xA:f.name ≠ "_" := fun e=>fe (.inl e)
       have xC:f.offset=off:=Decidable.not_not.1 fun e=>fe (.inr e)
       split at hr
       ·rename_i ls Ky
        split at hr
        ·rename_i iP eR
         injection hr with hr;subst hr
         rw[List.length_append] at h1
         obtain⟨a1,a2⟩:=Lx h3
         obtain⟨b1,b2⟩:=Lx h4
         rw[List.drop_drop] at a2 b2
         simp only[Op.eqFields,if_pos xA,Sem.run_bind,xC]
         rw[WM Ky xs.toArray off (by simp;omega) w]
         simp only[Result.andThen_ok]
         rw[WM Ky ys.toArray off (by simp;omega) w]
         simp only[Result.andThen_ok]
         rw[ih D f.type ls Ky (by omega) _ _ a1 b1 w]
         simp only[Result.andThen_ok,Sem.run_ite]
         have ex:ji (xs.drop off) (ys.drop off)=(ji ((xs.drop off).take ls.length) ((ys.drop off).take ls.length)&&ji (xs.drop (off+ls.length)) (ys.drop (off+ls.length))):=by
          conv=>lhs;rw[←List.take_append_drop ls.length (xs.drop off),←List.take_append_drop ls.length (ys.drop off)]
          rw[QU (by simp;omega),List.drop_drop,List.drop_drop]
         rw[ex]
         cases hb:ji ((xs.drop off).take ls.length) ((ys.drop off).take ls.length) with
         | false=>simp
         | true=>
          simp only[Bool.not_true,Bool.false_eq_true,if_false,Bool.true_and]
          exact ihf (off+ls.length) iP eR xs ys (by omega) h2 a2 b2
        cases hr
       cases hr
     have j1:=Ly hx
     have S7:=Ly hy
     have:=key fs.toList 0 ls' hf xs ys (by omega) (by omega) (by simpa using hx) (by simpa using hy)
     simpa using this
    cases h
   cases h
  cases h
def IV (P:Program) (t:TypeId) (ls:List Lf):Bool:=decide (pB P 30 t=some ls) && !P.eqGuardType P.depth t&&(match P.underlying t with | some .bool=>decide (ls=[.bool]) | some (.struct _)=>decide (ls≠[.bool]) | _=>false)
theorem Lz {I:aw}:∀ {ls:List Lf} {vs:List Value} {ds:List D},vs.length=ds.length→(∀ (i:Nat) v d,vs[i]?=some v→ds[i]?=some d→Rd I v d)→iL ls ds=true→gB ls vs=true
 | [],[],[],_,_,_=>rfl
 | x::ls,v::vs,d::ds,hl,hr,h=>by
  simp only[iL,Bool.and_eq_true] at h
  simp only[gB,Bool.and_eq_true]
  refine⟨?_,Lz (by simpa using hl) (fun i u e hu he=>hr (i+1) u e (by simpa using hu) (by simpa using he)) h.2⟩
  have h0:=hr 0 v d rfl rfl
  cases h0<;>cases x<;>simp[xW] at h<;>simp[rD,h]
 | [],_::_,[],hl,_,_=>by simp at hl
 | [],[],_::_,hl,_,_=>by simp at hl
 | [],_::_,_::_,_,_,h=>by simp[iL] at h
 | _::_,[],_::_,hl,_,_=>by simp at hl
 | _::_,_::_,[],hl,_,_=>by simp at hl
 | _::_,[],[],_,_,h=>by simp[iL] at h
theorem QV {I:aw}:∀ {ls:List Lf} {vs us:List Value} {ds es:List D},vs.length=ds.length→us.length=es.length→(∀ (i:Nat) v d,vs[i]?=some v→ds[i]?=some d→Rd I v d)→(∀ (i:Nat) v d,us[i]?=some v→es[i]?=some d→Rd I v d) →
  iL ls ds=true→iL ls es=true→ji vs us=dJ ds es
 | [],[],[],[],[],_,_,_,_,_,_=>rfl
 | x::ls,v::vs,u::us,d::ds,e::es,h1,h2,r1,r2,k1,k2=>by
  simp only[iL,Bool.and_eq_true] at k1 k2
  simp only[ji,dJ]
  rw[QV (ls:=ls) (by simpa using h1) (by simpa using h2) (fun i a b ha hb=>r1 (i+1) a b (by simpa using ha) (by simpa using hb)) (fun i a b ha hb=>r2 (i+1) a b (by simpa using ha) (by simpa using hb)) k1.2 k2.2]
  congr 1
  have a0:=r1 0 v d rfl rfl
  have b0:=r2 0 u e rfl rfl
  cases a0<;>cases x<;>simp[xW] at k1<;>cases b0<;>simp[xW] at k2<;>rfl
 | [],v::vs,_,[],_,h,_,_,_,_,_=>by simp at h
 | [],[],_,d::ds,_,h,_,_,_,_,_=>by simp at h
 | [],v::vs,_,d::ds,_,_,_,_,_,h,_=>by simp[iL] at h
 | [],[],u::us,[],[],_,h,_,_,_,_=>by simp at h
 | [],[],[],[],e::es,_,h,_,_,_,_=>by simp at h
 | [],[],u::us,[],e::es,_,_,_,_,_,h=>by simp[iL] at h
 | x::ls,[],_,d::ds,_,h,_,_,_,_,_=>by simp at h
 | x::ls,v::vs,_,[],_,h,_,_,_,_,_=>by simp at h
 | x::ls,[],_,[],_,_,_,_,_,h,_=>by simp[iL] at h
 | x::ls,v::vs,[],d::ds,e::es,_,h,_,_,_,_=>by simp at h
 | x::ls,v::vs,u::us,d::ds,[],_,h,_,_,_,_=>by simp at h
 | x::ls,v::vs,[],d::ds,[],_,_,_,_,_,h=>by simp[iL] at h
theorem ub.Mg {fS:List (Nat×List Lf)} (h:fS.all (fun p=>IV P p.1 p.2)=true):ub P (fun t=>(fS.find? fun p=>p.1 == t).map (·.2)):=by
 intro t ls ht op x y I u v a b w ha hb dg mj
 have u7:IV P t ls=true:=by
  cases hf:fS.find? (fun p=>p.1 == t) with
  | none=>simp[hf] at ht
  | some p=>
   simp[hf] at ht
   have h1:=List.find?_some hf
   have h2:=List.all_eq_true.1 h p (List.mem_of_find?_eq_some hf)
   simp at h1;subst h1;subst ht;exact h2
 simp only[IV,Bool.and_eq_true,decide_eq_true_eq,Bool.not_eq_true'] at u7
 obtain⟨⟨h1,h2⟩,h3⟩:=u7
 rcases dg with ⟨p,q,rfl,rfl,rfl⟩ | ⟨xs,ys,rfl,rfl,bc,hx,hy⟩
 ·cases ha;cases hb
  have hu:P.underlying t=some .bool:=by
   split at h3
   ·assumption
   ·simp at h3
   cases h3
  have hr:=WJ 30 10000 t _ h1 (by omega) [.bool p] [.bool q] rfl rfl w
  have e1:∀ p,nm P t [.bool p] = .bool p:=fun p=>by unfold nm;rw[hu];rfl
  rw[e1,e1] at hr
  simp only[Sem.run_bind,eqGuard_at_bool,Sem.run_pure,Result.andThen_ok]
  rcases mj with rfl | rfl<;>simp[binOp,Op.equal,Op.maxDepth,hr,ji,zq,jN]
 have c7:∃ fs,P.underlying t=some (.struct fs):=by
  split at h3
  ·exact absurd (of_decide_eq_true h3) bc
  ·rename_i fs hu;exact⟨fs,hu⟩
  cases h3
 obtain⟨fs,hu⟩:=c7
 generalize Ek:D.agg xs=da at ha
 generalize El:D.agg ys=db at hb
 cases ha<;>first | (cases Ek;done) | skip
 rename_i cs ds p1 p2 p3
 injection Ek with Ek;subst Ek
 cases hb<;>first | (cases El;done) | skip
 rename_i fc ox q1 q2 q3
 injection El with El;subst El
 have r1:gB ls cs.toList=true:=Lz (by simpa using p1) (fun i v d hv hd=>p3 i v d (by simpa using hv) hd) hx
 have r2:gB ls fc.toList=true:=Lz (by simpa using q1) (fun i v d hv hd=>q3 i v d (by simpa using hv) hd) hy
 have hr:=WJ 30 10000 t _ h1 (by omega) cs.toList fc.toList r1 r2 w
 have e1:∀ cs:Array Value,nm P t cs.toList = .agg cs:=fun cs=>by unfold nm;rw[hu]
 rw[e1,e1,QV (by simpa using p1) (by simpa using q1) (fun i v d hv hd=>p3 i v d (by simpa using hv) hd) (fun i v d hv hd=>q3 i v d (by simpa using hv) hd) hx hy] at hr
 simp only[Sem.run_bind,run_eqGuard_agg w op t x y cs fc h2,Result.andThen_ok]
 rcases mj with rfl | rfl
 ·rw[run_eql_struct w];simp[hr,jN]
 rw[run_neq_struct w];simp[hr,jN]
end
end Go.aj
